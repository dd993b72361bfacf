/- The checker is sound: loads, stores, slices, appends, allocations. -/
import Derived.Test.YtboaighhnghpdaaGreatDoorD
set_option linter.unusedVariables false
set_option linter.unusedSimpArgs false
set_option maxHeartbeats 1000000
namespace Go.Ae
open Go.Ev
variable {Z:NV}{z:ZN}{ks:List EK}{n e k:LE}{pat:List V}{tr:T V}{a:A}{v:V}{c l:List A}{o:Off}{i b w U s f cnt off:Nat}{ty:TY}{ro:Bool}{t:Option TypeId}{te:TypeId}{lo hi:Option LE}{els:List (LE×LE)}
theorem CR.fold (hz:ZR Z z)(h0:Z.ints[0]?=some 0){pre post:List A}{ks':List EK}{N fe:LE}{as:List A}{n:Nat}(cr:CR Z (pre++.rw ks N (some (fe,as)) :: post) n pat tr)(hj:tV z ks as=some ks'):CR Z (pre++.rw ks' N none :: post) n pat tr:=by
 obtain⟨p,w',l1,l2,l3⟩:=cr.len.split;cases l2 with
 |cons hw hpost=>
  cases hw with
  |one q=>exact absurd rfl (q _ _ _)
  |rw hN hfoc=>
   rename_i wp cnt;obtain⟨la,mf,hmf,hltf⟩:=hfoc _ _ rfl;have hml':(mf+1) * ks.length<=cnt * ks.length:=bD _ hltf;rw[bH,dS] at hml';have hcn:ks.length * cnt=cnt * ks.length:=aY _ _;obtain⟨j1,j2,j3⟩:=vV hz h0 hj fun g a hg=>by
    have hg':=(ai.1 hg).1;obtain⟨c,c1,c2⟩:=cr.get (i:=p+(mf * ks.length+g)) (by omega);rcases CA.split l1 c2 with⟨q1,_⟩|⟨j',q1,q2⟩
    .omega
    .have:j'=mf * ks.length+g:=by omega
     subst this;obtain⟨a',b1,b2,b3⟩:=CA.elem q2 hmf hltf (by omega) (.rw hN hfoc);rw[hg] at b1;cases b1;exact⟨c,b3⟩
   have hwr:WV Z (.rw ks' N none) (ks.length * cnt):=by rw[<- j1];exact .rw hN fun _ _ e=>nomatch e
   refine⟨?_,cr.all,fun g c hg=>?_⟩;·rw[l3];exact l1.append (.cons hwr hpost)
   .have hc:=cr.at' g c hg;rcases CA.split l1 hc with⟨q1,q2⟩|⟨j',q1,q2⟩
    .exact q2.kF
    .rw[q1];refine CA.mw l1 ?_;by_cases hj:j'<ks.length * cnt
     .have hk:0<ks.length:=by
       rcases Nat.eq_zero_or_pos ks.length with e|e;·rw[e] at hj;omega
       .exact e
      have hgl:=dD j' hk;have hr:=dH j' ks.length;obtain⟨k,hkk⟩:∃ k,ks[j' % ks.length]?=some k:=⟨_,ah hgl⟩;obtain⟨k',d1,d2,d3⟩:=j3 _ _ hkk;refine .row hN (by rw[j1];exact hj) (fun _ _ e=>nomatch e) (k:=k') (by rw[j1];exact d1) ?_;by_cases hgm:j' / ks.length=mf
      .rw[hgm] at hr;have e5:j'=mf * ks.length+j' % ks.length:=by rw[aY mf];omega
       rw[e5] at q2;obtain⟨a',b1,b2,b3⟩:=CA.elem q2 hmf hltf hgl (.rw hN hfoc);exact d3 _ _ b1 b3
      .cases q2 with
       |here p _=>cases p
       |skip q k=>have:=q.rwn hN;omega
       |row a b d q r=>rw[hkk] at q;cases q;exact d2 _ r
       |foc a b d i' q p' r'=>rename_i n2 m2 f2 a2;have:=hmf.fn b;have:mf=m2:=Int.ofNat.inj this;subst this;refine absurd ?_ hgm;rw[aY,eD hk,ep i'];omega
     .obtain⟨j2',rfl⟩:=bI (show ks.length * cnt<=j' by omega);exact .skip hwr (CA.tail (.rw hN hfoc) q2)
theorem CR.nY {Z:NV}{z:ZN}(hz:ZR Z z)(h0:Z.ints[0]?=some 0){n:Nat}{pat:List V}{tr:T V}:∀ (post pre:List A),CR Z (pre++post) n pat tr->CR Z (pre++Ae.nY z post) n pat tr
 |[],pre,h=>h
 |x :: post,pre,h=>by
  have key:∀ y,CR Z (pre++y :: post) n pat tr->CR Z (pre++y :: Ae.nY z post) n pat tr:=fun y hy=>by have:=CR.nY hz h0 post (pre++[y]) (by simpa using hy);simpa using this
  unfold Ae.nY;split
  .rename_i ks N fe as;split;·rename_i ks' hj;exact key _ (CR.fold hz h0 h hj)
   .exact key _ h
  .exact key _ h
noncomputable def vc (v:V)(j:Nat):Option V:=
 match v with
 |.agg n pat tr=>cell n pat tr j
 |.tuple _=>none
 |v=>if j=0 then some v else none
structure VC (Z:NV)(c:List A)(v:V)(w:Nat):Prop where
 len:gp Z c w
 get:∀ j,j<w->∃ x,vc v j=some x/\CA Z c j x
 kind:(∃ pat tr,v=.agg w pat tr)\/(w=1/\v.scalar=true)
theorem qd (h:plain a=true)(k:AV Z a v):v.scalar=true:=by
 cases k with
 |k=>cases v<;>first|rfl|cases h
 |ag=>cases h
 |tp=>cases h
 |_=>rfl
theorem lM (h:v.scalar=true):vc v 0=some v:=by cases v<;>first|rfl|(simp[V.scalar] at h)
theorem B8 (hz:ZR Z z)(h0:Z.ints[0]?=some 0)(h:(rG a).map (nY z)=some c)(ha:AV Z a v):∃ w,VC Z c v w:=by
 unfold rG at h;split at h;·simp only[cA] at h;cases h;rename_i l;obtain⟨n,pat,tr,rfl,cr⟩:=ha.cr;have cr':=CR.nY hz h0 l [] cr;exact⟨n,cr'.len,fun j hj=>cr'.get hj,.inl ⟨_,_,rfl⟩⟩
 .split at h
  .rename_i q;simp only[cA] at h;cases h;have hs:=qd q ha;have e:nY z [a]=[a]:=by
    unfold nY;split;·cases q
    .rfl
   rw[e];refine⟨1,.cons (eZ q) .nil,fun j hj=>?_,.inr ⟨rfl,hs⟩⟩;have:j=0:=by omega
   subst this;exact⟨v,lM hs,.here q ha⟩
  .cases h
theorem B9 {n:Nat}{o:Nat}(hi:i<n):cell n pat (tr.put o (some v)) i=if i=o then some v else cell n pat tr i:=by
 unfold cell;rw[show Nat.blt i n=true from aH hi];simp only[T.eL];by_cases e:i=o;·simp[e]
 .simp[e]
theorem pn {n':Nat}{pat':List V}{tr':T V}{off:Nat}:∀ (k i:Nat) (tr:T V),(∀ j,i<=j->j<i+k->∃ x,cell n' pat' tr' j=some x)->∃ tr'',yI n' pat' tr' off i k tr=some tr''
 |0,i,tr,_=>⟨tr,rfl⟩
 |k+1,i,tr,h=>by obtain⟨x,hx⟩:=h i (by omega) (by omega);obtain⟨t,ht⟩:=pn k (i+1) (tr.put (Nat.add off i) (some x)) fun j a b=>h j (by omega) (by omega);exact⟨t,by simp only[yI,hx];exact ht⟩
theorem om {h:H}{o n:Nat}{e:Option TypeId}(hb:h.tr.get b=some (.cells e n pat tr))(hc:VC Z c v w)(hw:w=ty.size)(hpos:0<w)(ho:o+w<=n):
  ∃ pat2 tr2,mV (some ty) h (some (.ptr b o)) (some v)=some (.tuple [],h.set b (some (.cells e n pat2 tr2)))/\∀ i,i<n->cell n pat2 tr2 i=if o<=i/\i<o+w then vc v (i - o) else cell n pat tr i:=by
 rcases hc.kind with⟨pat',tr',rfl⟩|⟨rfl,hs⟩
 .have hcell:∀ j,j<w->∃ x,cell w pat' tr' j=some x:=fun j hj=>let ⟨x,a,_⟩:=hc.get j hj;⟨x,a⟩;have e1:Nat.beq w ty.size=true:=(T.beq_true).2 hw;cases q:Nat.beq o 0&&Nat.beq w n with
  |true=>
   have e3:mV (some ty) h (some (.ptr b o)) (some (.agg w pat' tr'))=some (.tuple [],h.set b (some (.cells e w pat' tr'))):=by simp only[mV,hb,e1,q]
   simp only[ae,T.beq_true] at q;obtain⟨rfl,rfl⟩:=q;refine⟨pat',tr',e3,fun i hi=>?_⟩;rw[if_pos (by omega)];rfl
  |false=>
   obtain⟨t,ht⟩:=pn (off:=o) w 0 tr fun j _ hj=>hcell j (by omega);obtain⟨g1,g2⟩:=lS ht;refine⟨pat,t,?_,fun i hi=>?_⟩;·simp only[mV,hb,e1,q,ht];rw[show Nat.ble (Nat.add o w) n=true from aH ho]
   .split;·rename_i q;obtain⟨x,x1,x2⟩:=g1 (i - o) (by omega) (by omega);rw[show o+(i - o)=i by omega] at x2;show _=cell w pat' tr' (i - o);rw[x1];exact gC hi x2
    .exact gX (g2 i (by omega))
 .have e1:(Nat.beq ty.size 1&&Nat.blt o n)=true:=by
   simp only[ae,T.beq_true];exact⟨hw.symm,aH ho⟩
  refine⟨pat,tr.put o (some v),?_,fun i hi=>?_⟩;·cases v<;>first|(simp only[mV,hb,e1];done)|(simp[V.scalar] at hs)
  .rw[B9 hi];by_cases q:i=o;·subst q;rw[if_pos rfl,if_pos (by omega),cJ,lM hs]
   .rw[if_neg q,if_neg (by omega)]
section
variable {M:TH}{fr:FR}{Z:NV}{J:AS}{st:St}{K:A->AS->Bool}
def Eff (M:TH)(fr:FR)(Z:NV)(st:St)(v:V)(h:H)(K:A->AS->Bool):Prop:=∃ Z' J' a,Z.le Z'/\Mem M fr Z' J' ⟨st.env,h,st.defs⟩/\AV Z' a v/\K a J'=true
theorem Res.eff (h:Res Z J v K)(hM:Mem M fr Z J st):Eff M fr Z st v st.h K:=by obtain⟨Z',J',a,u,b,c⟩:=h;exact⟨Z',J',a,u.le,hM.up u,b,c⟩
theorem Mem.block (hM:Mem M fr Z J st)(hb:J.mem.get U=some (s,.cl ro t l)):∃ b n pat tr o,Z.blks[U]?=some b/\Z.objs[s]?=some [(b,o)]/\o=(match ro with
  |true=>O.ro t n pat tr
  |false=>O.cells t n pat tr)/\CR Z l n pat tr/\st.h.tr.get b=some o:=by
 obtain⟨b,hp,x1,x2,x3,x4⟩:=hM.hr.at' _ _ _ hb;cases x3 with
 |cl q=>exact⟨b,_,_,_,.cells t _ _ _,x1,x2,rfl,q,(x4 _ (aE ..)).1⟩
 |ro q=>exact⟨b,_,_,_,.ro t _ _ _,x1,x2,rfl,q,(x4 _ (aE ..)).1⟩
theorem AOR.of {n:Nat}(h:CR Z l n pat tr):AOR M Z (.cl ro t l) b [(b,match ro with
  |true=>O.ro t n pat tr
  |false=>O.cells t n pat tr)]:=by
 cases ro;·exact .cl h
 .exact .ro h
theorem Al (h0:Z.ints[0]?=some 0){agg:Bool}{size:Nat}{as:List A}(h:kG agg size as f=some a)(hp:∀ (g:Nat) (a:A),as[g]?=some a->plain a=true){n:Nat}{q:Nat}(hq:q+as.length<=n)(hall:∀ i,i<n->(cell n pat tr i).isSome=true)(hc:∀ (g:Nat) (a:A),as[g]?=some a->∀ c,cell n pat tr (q+g)=some c->AV Z a c):
  ∃ v,Ev.partAt agg size n pat tr (q+f)=some v/\AV Z a v:=by
 have hlen:∀ (as:List A),(∀ (g:Nat) (a:A),as[g]?=some a->plain a=true)->gp Z as as.length:=fun as=>by
  induction as with
  |nil=>exact fun _=>.nil
  |cons x as ih=>intro hp;have:=gp.cons (eZ (Z:=Z) (hp 0 x rfl)) (ih fun g a hg=>hp (g+1) a (by simpa using hg));rw[bp] at this;exact this
 have hat:∀ (as:List A),(∀ (g:Nat) (a:A),as[g]?=some a->plain a=true)->∀ (g:Nat) (a:A) (c:V),as[g]?=some a->AV Z a c->CA Z as g c:=fun as=>by
  induction as with
  |nil=>intro _ g a c h;simp at h
  |cons x as ih=>
   intro hp g a c h hc;cases g with
   |zero=>simp at h;subst h;exact .here (hp 0 _ rfl) hc
   |succ g=>have:=CA.skip (eZ (Z:=Z) (hp 0 x rfl)) (ih (fun g a hg=>hp (g+1) a (by simpa using hg)) g a c (by simpa using h) hc);rw[bp] at this;exact this
 obtain⟨cs,hcs⟩:=fj (n:=n) (pat:=pat) (tr:=tr) as.length q fun g hg=>hall _ (by omega);obtain⟨g1,g2⟩:=eP hcs;have cr:CR Z as cs.length cs .leaf:=CR.vA (by rw[g1];exact hlen as hp) (fun i hi=>jY cs hi) fun i v hv=>by have hi:=(ai.1 hv).1;have ha:=ah (l:=as) (i:=i) (by omega);exact hat as hp i _ v ha (hc i _ ha v (g2 i v hv))
 unfold kG at h;split at h;·cases h
 rename_i r hr;obtain⟨m,d1,d2,d3⟩:=vw h0 hr cr.len;split at h
 .split at h
  .split at h
   .rename_i x rest hpl;cases h;have:0<m:=by
     cases d1 with
     |cons q1 q2=>have:=q1.fn (eZ hpl);omega
    obtain⟨c,c1,c2⟩:=cr.get (show f<cs.length by omega);have:=jY cs (show f<cs.length by omega);rw[c1] at this;exact⟨c,g2 f c this.symm,(d3 0 c (by rw[bX];exact c2)).head hpl⟩
   .cases h
  .cases h
 .split at h
  .rename_i c hcc;cases h;obtain⟨t1,t2,t3⟩:=vz h0 hcc d1;have hsz:q+f+size<=n:=by omega
   obtain⟨cs2,hcs2⟩:=fj (n:=n) (pat:=pat) (tr:=tr) size (q+f) fun g hg=>hall _ (by omega);obtain⟨k1,k2⟩:=eP hcs2;have at2:∀ i v,cell n pat tr (q+f+i)=some v->i<size->CA Z c i v:=fun i v hv hi=>by have hg:=ah (l:=cs) (i:=f+i) (by omega);have h2:=g2 _ _ hg;rw[show q+(f+i)=q+f+i by omega,hv] at h2;cases h2;exact t3 i _ hi (d3 i _ (cr.at' _ _ (by rw[jY cs (by omega)];exact hg)))
   cases qq:Nat.beq (q+f) 0&&Nat.beq size n with
   |true=>
    have e:Ev.partAt true size n pat tr (q+f)=some (.agg n pat tr):=by simp only[Ev.partAt,qq]
    simp only[ae,T.beq_true] at qq;obtain⟨e1,rfl⟩:=qq;exact⟨_,e,CR.ag ⟨t1,hall,fun i x hx=>at2 i x (by rw[show q+f+i=i by omega];exact hx) (eT hx)⟩⟩
   |false=>
    have e:Ev.partAt true size n pat tr (q+f)=some (mkA cs2):=by simp only[Ev.partAt,qq,hcs2]
    obtain⟨p',t',e1,e2⟩:=Kn cs2;refine⟨_,e,?_⟩;rw[e1];exact CR.ag (CR.vA (by rw[k1];exact t1) e2 fun i v hv=>by have hi:=(ai.1 hv).1;exact at2 i v (k2 i v hv) (by omega))
  .cases h
theorem CR.elem {pre post:List A}{ks:List EK}{N i:LE}{as:List A}{n:Nat}{pat:List V}{tr:T V}(cr:CR Z (pre++.rw ks N (some (i,as)) :: post) n pat tr){p m cnt:Nat}(hp:gp Z pre p)(hm:Num Z i m)(hN:Num Z N cnt)(hlt:m<cnt)(la:as.length=ks.length):∀ (g:Nat) (a:A),as[g]?=some a->∀ c,cell n pat tr (p+m * ks.length+g)=some c->AV Z a c:=fun g a hg c hc=>by
 have hgl:=(ai.1 hg).1;have h1:=cr.at' _ _ hc;rcases CA.split hp h1 with⟨q1,_⟩|⟨j',q1,q2⟩
 .omega
 .have:j'=m * ks.length+g:=by omega
  subst this;obtain⟨a',b1,b2,b3⟩:=CA.elem q2 hm hlt (by omega) (.rw hN fun fe as' e=>by cases e;exact⟨la,m,hm,hlt⟩);rw[hg] at b1;cases b1;exact b3
theorem CA.un:(∀ a,a∈l->plain a=true)->∀ {g:Nat} {c:V},CA Z l g c->∃ a,l[g]?=some a/\AV Z a c:=by
 induction l with
 |nil=>intro _ g c h;cases h
 |cons x l ih=>
  intro hp g c h;cases g with
  |zero=>exact⟨x,rfl,h.head (hp x (by simp))⟩
  |succ g=>have h':=CA.tail (w:=1) (i:=g) (eZ (hp x (by simp))) (by rw[bp];exact h);obtain⟨a,a1,a2⟩:=ih (fun a ha=>hp a (by simp[ha])) h';exact⟨a,by simpa using a1,a2⟩
theorem Mem.MD (hM:Mem M fr Z J st){t:TypeId}{B m:LE}{foc:Option (LE×A)}(hb:J.mem.get U=some (s,.rr t te ks B m n foc)):∃ b bb cnt mm pat tr L g,Z.blks[U]?=some b/\Z.objs[s]?=some ((b,O.cells (some t) cnt pat tr) :: L.flatten)/\Num Z B ((bb:Nat):Int)/\Num Z m ((mm:Nat):Int)/\Num Z n ((cnt:Nat):Int)/\RRV Z te ks bb foc cnt mm pat tr L g/\(((b,O.cells (some t) cnt pat tr) :: L.flatten).map Prod.fst).Nodup/\st.h.tr.get b=some (.cells (some t) cnt pat tr):=by
 obtain⟨b,hp,x1,x2,x3,x4⟩:=hM.hr.at' _ _ _ hb;cases x3 with
 |rr z a b' c d=>exact⟨b,_,_,_,_,_,_,_,x1,x2,z,a,b',c,d,(x4 _ (aE ..)).1⟩
theorem RRV.FN {B:Nat}{mm:Nat}{L:List (List (Nat×O))}{g:Option Nat}(h:RRV Z te ks B (some (e,a)) cnt mm pat tr L g):∃ f:Nat,g=some f/\Num Z e (f:Int)/\f<mm:=by
 have:=h.hf;cases g with
 |none=>exact this.elim
 |some f=>exact⟨f,rfl,this.1,this.2⟩
theorem RRV.told {B:Nat}{mm:Nat}{L:List (List (Nat×O))}(h:RRV Z te ks B (some (e,a)) cnt mm pat tr L (some f)):L[f]?=some []/\∃ c,cell cnt pat tr f=some c/\AV Z a c:=by
 have hf:=h.hf;have hl:f<L.length:=by rw[h.len];exact hf.2
 obtain⟨c,hc⟩:=h.all f (bh hf.2 h.le);obtain⟨e1,e2⟩:=h.at' f c _ e a (ah hl) hc rfl rfl;exact⟨by rw[ah hl,e1],c,hc,e2⟩
theorem FO (hz:ZR Z z)(h0:Z.ints[0]?=some 0)(h:LN z o e=true)(ho:pC Z o off)(hf:Num Z e (f:Int)):off=f:=by
 simp only[LN,ae,bf,T.beq_true] at h;obtain⟨x,x1,x2⟩:=ho;have hn:Num Z (jc o 1 o.o) ((off:Nat):Int):=by
  unfold jc;rcases h.1 with q|q
  .rw[q];rw[q] at x2;have e:off=o.o:=by omega
   show Num Z (0,Int.ofNat (o.o / 1)) _;rw[eH,e];exact eO h0 _
  .rw[q];rw[q] at x2;show Num Z (plus o.e (Int.ofNat (o.o / 1))) _;rw[eH];have:=(x1 (by omega)).plus (Int.ofNat o.o);have e:((off:Nat):Int)=(x:Int)+Int.ofNat o.o:=by rw[x2];simp;omega
   rw[e];exact this
 have:=jB hz h0 h.2 hn hf;omega
theorem ME (h0:Z.ints[0]?=some 0)(h:o.st=0\/o.st=1)(ho:pC Z o off):Num Z (jc o 1 o.o) ((off:Nat):Int):=by
 obtain⟨x,x1,x2⟩:=ho;unfold jc;rcases h with q|q
 .rw[q];rw[q] at x2;have e:off=o.o:=by omega
  subst e;rw[show Nat.div o.o 1=o.o from eH _];exact eO h0 _
 .rw[q];rw[q] at x2;show Num Z (plus o.e (Int.ofNat (Nat.div o.o 1))) _;rw[show Nat.div o.o 1=o.o from eH _];have:=(x1 (by omega)).plus (Int.ofNat o.o);have e:((off:Nat):Int)=(x:Int)+Int.ofNat o.o:=by rw[x2];simp;omega
  rw[e];exact this
theorem Ca (hz:ZR Z z)(h0:Z.ints[0]?=some 0)(h:Oc z o n=true)(ho:pC Z o off)(hn:Num Z n (cnt:Int)):Num Z (jc o 1 o.o) ((off:Nat):Int)/\off<cnt:=by simp only[Oc,ae,bf,T.beq_true] at h;have hi:=ME h0 h.1.1 ho;have:=eV hz h0 h.2 (hi.plus 1) hn;exact⟨hi,by omega⟩
theorem vU (hq:ty.agg=false){h:H}(hb:h.tr.get b=some (roO ro t cnt pat tr)):jT (some ty) h (some (.ptr b off))=cell cnt pat tr off:=by cases ro<;>simp only[roO] at hb<;>simp only[jT,hb,hq,Ev.partAt]
theorem Am {Z:NV}{z:ZN}(hz:ZR Z z)(h0:Z.ints[0]?=some 0){e v:LE}:∀ {els:List (LE×LE)},atE z e els=some v->∃ p,p∈els/\eqQ z p.1 e=true/\p.2=v
 |[],h=>by cases h
 |p :: l,h=>by
  unfold atE at h;split at h;·rename_i q;cases h;exact⟨p,by simp,q,rfl⟩
  .obtain⟨p',a,b,c⟩:=Am hz h0 h;exact⟨p',aB _ a,b,c⟩
theorem KI {z:ZN}{k e x:LE}:∀ {els:List (LE×LE)},x∈Od z k e els->∃ p,p∈els/\leQ z k p.1=true/\leQ z p.1 e=true/\x=p.2
 |[],h=>by cases h
 |p :: l,h=>by
  unfold Od at h;rcases aK.1 h with g|g
  .obtain⟨g1,rfl⟩:=T4 g;simp only[ae] at g1;exact⟨p,by simp,g1.1,g1.2,rfl⟩
  .obtain⟨p',a,b⟩:=KI g;exact⟨p',aB _ a,b⟩
theorem KJ {z:ZN}{k e x:LE}:∀ {els:List (LE×LE)},x∈Oe z k e els->∃ p,p∈els/\leQ z k e=true/\leQ z e p.1=true/\x=p.2
 |[],h=>by cases h
 |p :: l,h=>by
  unfold Oe at h;rcases aK.1 h with g|g
  .obtain⟨g1,rfl⟩:=T4 g;simp only[ae] at g1;exact⟨p,by simp,g1.1,g1.2,rfl⟩
  .obtain⟨p',a,b⟩:=KJ g;exact⟨p',aB _ a,b⟩
theorem SoR.read {J:AS}(hv:VR Z J){f:Nat->Int}(h:SoR Z n k lo hi els cnt f)(he:Num Z e (i:Int))(hi':i<cnt):
  (∀ v,atE J.z e els=some v->Num Z v (f i)) /\
  (∀ x,x∈((0,nX) :: ((match leQ J.z k e with
    |true=>BJ lo
    |false=>[])++Od J.z k e els))->∃ a,Num Z x a/\a<=f i) /\
  (∀ x,x∈((0,lA) :: ((match leQ J.z k e with
    |true=>BJ hi
    |false=>[])++Oe J.z k e els))->∃ a,Num Z x a/\f i<=a):=by
 obtain⟨kk,k1,k2,k3⟩:=h.srt;have le:=fun {p q:LE} {a b:Int} (h:leQ J.z p q=true) (x:Num Z p a) (y:Num Z q b)=>eV hv.zr hv.z0 h x y;refine⟨fun v hv'=>?_,fun x hx=>?_,fun x hx=>?_⟩
 .obtain⟨p,p1,p2,rfl⟩:=Am hv.zr hv.z0 hv';obtain⟨j,j1,j2,j3⟩:=h.els p p1;have:=jB hv.zr hv.z0 p2 j1 he;have:j=i:=by omega
  subst this;exact j3
 .rcases aq.1 hx with rfl|hx;·exact⟨_,eO hv.z0 _,(h.all i hi').1⟩
  rcases aK.1 hx with g|g
  .split at g
   .rename_i q;have:=le q k1 he;cases hlo:lo with
    |none=>rw[hlo] at g;cases g
    |some l=>rw[hlo] at g;simp only[BJ,aj] at g;subst g;exact(k3 i this hi').1 _ hlo
   .cases g
  .obtain⟨p,p1,p2,p3,rfl⟩:=KI g;obtain⟨j,j1,j2,j3⟩:=h.els p p1;have a1:=le p2 k1 j1;have a2:=le p3 j1 he;exact⟨_,j3,k2 j i a1 (by omega) hi'⟩
 .rcases aq.1 hx with rfl|hx;·exact⟨_,eO hv.z0 _,(h.all i hi').2⟩
  rcases aK.1 hx with g|g
  .split at g
   .rename_i q;have:=le q k1 he;cases hh:hi with
    |none=>rw[hh] at g;cases g
    |some l=>rw[hh] at g;simp only[BJ,aj] at g;subst g;exact(k3 i this hi').2 _ hh
   .cases g
  .obtain⟨p,p1,p2,p3,rfl⟩:=KJ g;obtain⟨j,j1,j2,j3⟩:=h.els p p1;have a1:=le p2 k1 he;have a2:=le p3 he j1;exact⟨_,j3,k2 i j a1 (by omega) j2⟩
theorem SoR.told {f:Nat->Int}(h:SoR Z n k lo hi els cnt f){x:LE}(he:Num Z e (i:Int))(hi':i<cnt)(hx:Num Z x (f i)):SoR Z n k lo hi ((e,x) :: els) cnt f:=
 ⟨h.hn,h.all,h.srt,fun p hp=>by
   rcases aq.1 hp with rfl|hp;·exact⟨i,he,hi',hx⟩
   .exact h.els p hp⟩
theorem FP (h:zae U s ro t n k lo hi els e J K=true)(hM:Mem M fr Z J st)(hb:J.mem.get U=some (s,.so ro t n k lo hi els)){f:Nat->Int}{o:O}(x1:Z.blks[U]?=some b)(x2:Z.objs[s]?=some [(b,o)])(hr:SoR Z n k lo hi els cnt f)(hc:∀ i,i<cnt->cell cnt pat tr i=some (.int .i64 (f i)))(ho:o=roO ro t cnt pat tr)(he:Num Z e (i:Int))(hi':i<cnt):Eff M fr Z st (.int .i64 (f i)) st.h K:=by
 unfold zae at h;split at h;case h_2=>cases h
 obtain⟨r1,r2,r3⟩:=hr.read hM.vr he hi';split at h;·rename_i v hv;exact⟨Z,J,_,.refl _,hM,.i (r1 v hv),h⟩
 .obtain⟨Z',J',x,u,n1,_,_,hk⟩:=fM h hM.vr (f i) r2 r3;exact⟨Z',_,_,u.le,Mem.jZ (hM.up u) (b:=b) (hp:=[(b,o)]) (by rw[u.same.mem];exact hb) (u.le.b x1) (u.le.o x2) (.so ((hr.mono u.le).told (he.mono u.le) hi' n1) hc ho),.i n1,hk⟩
theorem FQ {E:Nat}{tT:Option TypeId}{v:Int}(h:E1 U s E ro t tT v n k els e J K=true)(hM:Mem M fr Z J st)(hb:J.mem.get U=some (s,.sp E ro t tT v n k els)){f:Nat->Int}{bT:Nat}{patT:List V}{trT:T V}{o:O}(x1:Z.blks[U]?=some b)(x2:Z.objs[s]?=some [(b,.cells t (cnt+1) pat tr),(bT,o)])(hE:Z.blks[E]?=some bT)(hn:Num Z n (cnt:Int))(hr:SoR Z (plus n 1) k none none els (cnt+1) f)(h0:f 0=v)(hc:∀ i,i<cnt+1->cell (cnt+1) pat tr i=some (.int .i64 (f i)))(hT:∀ i,i<cnt->cell cnt patT trT i=some (.int .i64 (f (i+1))))(ho:o=roO ro tT cnt patT trT)(hne:b≠bT)(he:Num Z e (i:Int))(hi':i<cnt+1):Eff M fr Z st (.int .i64 (f i)) st.h K:=by
 unfold E1 at h;split at h;case h_2=>cases h
 obtain⟨r1,r2,r3⟩:=hr.read hM.vr he hi';split at h;·rename_i v hv;exact⟨Z,J,_,.refl _,hM,.i (r1 v hv),h⟩
 .have nil:∀ {α:Type} (b:Bool),(match b with
   |true=>([]:List α)
   |false=>[])=[]:=fun b=>by cases b<;>rfl
  obtain⟨Z',J',x,u,n1,_,_,hk⟩:=fM h hM.vr (f i) (fun x hx=>r2 x (by
   rcases aq.1 hx with rfl|hx;·simp
   .exact aB _ (aK.2 (.inr hx)))) (fun x hx=>r3 x (by
   rcases aq.1 hx with rfl|hx;·simp
   .exact aB _ (aK.2 (.inr hx))))
  exact⟨Z',_,_,u.le,Mem.jZ (hM.up u) (b:=b) (by rw[u.same.mem];exact hb) (u.le.b x1) (u.le.o x2) (.sp (u.le.b hE) (hn.mono u.le) ((hr.mono u.le).told (he.mono u.le) hi' n1) h0 hc hT ho hne),.i n1,hk⟩
theorem Mem.TZ (hM:Mem M fr Z J st){t:TypeId}{mx:Nat}{T':LE}{foc:Option (LE×BE)}(hb:J.mem.get U=some (s,.bc t w mx n T' foc)):∃ b cnt pat tr,Z.blks[U]?=some b/\Z.objs[s]?=some [(b,O.cells (some t) cnt pat tr)]/\st.h.tr.get b=some (.cells (some t) cnt pat tr)/\Num Z n (cnt:Int)/\cnt<=mx/\Num Z T' ((w * tW cnt pat tr:Nat):Int)/\(∀ i,i<cnt->∃ bo,cell cnt pat tr i=some (.bool bo))/\(∀ e be,foc=some (e,be)->∃ (i:Nat) (bo:Bool),Num Z e (i:Int)/\i<cnt/\cell cnt pat tr i=some (.bool bo)/\BV Z be bo):=by
 obtain⟨b,hp,x1,x2,x3,x4⟩:=hM.hr.at' _ _ _ hb;cases x3 with
 |bc a b' c d e=>exact⟨b,_,_,_,x1,x2,(x4 _ (aE ..)).1,a,b',c,d,e⟩
theorem Cb {t:TypeId}{mx:Nat}{T':LE}{foc:Option (LE×BE)}(h:IC U s t w mx n T' e J K=true)(hM:Mem M fr Z J st)(hb:J.mem.get U=some (s,.bc t w mx n T' foc))(x1:Z.blks[U]?=some b)(x2:Z.objs[s]?=some [(b,O.cells (some t) cnt pat tr)])(hn:Num Z n (cnt:Int))(hx:cnt<=mx)(hT:Num Z T' ((w * tW cnt pat tr:Nat):Int))(all:∀ i,i<cnt->∃ bo,cell cnt pat tr i=some (.bool bo)){bo:Bool}(he:Num Z e (i:Int))(hi':i<cnt)(hc:cell cnt pat tr i=some (.bool bo)):Eff M fr Z st (.bool bo) st.h K:=by
 unfold IC at h;split at h;case h_2=>cases h
 obtain⟨Z',J',x,u,n1,_,_,hk⟩:=fM (z:=if bo then 1 else 0) h hM.vr (fun e he=>by
  simp only[aq,aA,or_false] at he;subst he;exact⟨_,eO hM.vr.z0 _,by cases bo<;>simp⟩) (fun e he=>by
  simp only[aq,aA,or_false] at he;subst he;exact⟨_,eO hM.vr.z0 _,by cases bo<;>simp⟩)
 have hbv:BV Z' (.lt (0,0) x) bo:=by have:=BV.lt (eO u.vr.z0 0) n1;cases bo<;>simpa using this
 exact⟨Z',_,_,u.le,Mem.jZ (hM.up u) (b:=b) (by rw[u.same.mem];exact hb) (u.le.b x1) (u.le.o x2) (.bc (hn.mono u.le) hx (hT.mono u.le) all fun e' be q=>by cases q;exact⟨i,bo,he.mono u.le,hi',hc,hbv⟩),.b hbv,hk⟩
theorem Jf (hz:ZR Z z)(h0:Z.ints[0]?=some 0){e:BE}(h:EY z e=true){b:Bool}(hb:BV Z e b):b=false:=by
 unfold EY at h;split at h;·cases hb;simpa using h
 .cases hb with
  |lt a c=>have:=eV hz h0 h c a;simp only[decide_eq_false_iff_not];omega
 .cases h
theorem FT {c:Nat}(h:E2 ks n e f c o J K=true)(hM:Mem M fr Z J st)(hb:J.mem.get U=some (s,.tl t ks n e f c))(hU:Z.blks[U]?=some b)(ho:pC Z o off)(q:ty.agg=false):∃ U' o' b' r,A.p U o=.p U' o'/\Z.blks[U']?=some b'/\(∀ h2:H,h2.tr.get b'=st.h.tr.get b'->jT (some ty) h2 (some (.ptr b off))=some r)/\Eff M fr Z st r st.h K:=by
 unfold E2 at h;split at h;case h_2=>cases h
 rename_i g;simp only[ae,T.beq_true] at g;obtain⟨⟨⟨g1,g2⟩,g3⟩,g4⟩:=g;have g2:o.o<ks.length:=az g2;obtain⟨b',hp,x1,x2,x3,x4⟩:=hM.hr.at' _ _ _ hb;rw[hU] at x1;cases x1;cases x3 with
 |@tl _ _ _ _ _ _ _ cnt nn pat tr hn hr he=>
  obtain⟨m,m1,m2⟩:=ho;have m1:=m1 (by rw[g1];omega);have hm:m<cnt:=by have:=eV hM.vr.zr hM.vr.z0 g4 (m1.plus 1) hn;omega
  rw[g1] at m2;have hlt:off<nn:=by rw[hr.len,m2];have:(m+1) * ks.length<=cnt * ks.length:=bD _ hm;rw[bH,dS] at this;rw[aY ks.length cnt];omega
  have hmod:off % ks.length=o.o:=by rw[m2,cK];exact bS g2
  obtain⟨cv,k,c1,c2,c3⟩:=hr.at' off hlt;rw[hmod] at c2;have rd:∀ h2:H,h2.tr.get b=st.h.tr.get b->jT (some ty) h2 (some (.ptr b off))=some cv:=fun h2 e2=>(vU (ro:=true) q (e2.trans (x4 _ (aE ..)).1)).trans c1;refine⟨U,o,b,cv,rfl,hU,rd,?_⟩;split at h;case h_2=>cases h
  rename_i k' hk';rw[hk'] at c2;cases c2;have fin:∀ {J':AS},Up Z J Z J'->uw k J' K=true->Eff M fr Z st cv st.h K:=fun {J'} u0 h=>by obtain⟨Z1,J1,a,u1,a1,_,k1⟩:=xT h u0.vr c3;exact⟨Z1,J1,a,u1.le,hM.up (u0.trans u1),a1,k1⟩
  split at h
  .rename_i g5;rw[T.beq_true] at g5;obtain⟨m',s',e1,e2,e3,e4⟩:=he;obtain⟨J',u,k1⟩:=iu h hM.vr (BV.eq m1 e1);by_cases em:(m:Int)=m'
   .have:m'=m:=by omega
    subst this;rw[decide_eq_true em] at k1;rw[<- g5,bp,<- m2,c1] at e3;cases e3;exact(I5 k1 u.vr s' e4).eff (hM.up u)
   .rw[decide_eq_false em] at k1;exact fin u k1
  .exact fin (.refl hM.vr) h
theorem zag {ty:Option TY}{x:A}(h:LO ty x J K=true)(hM:Mem M fr Z J st)(hx:AV Z x v):∃ U o b r,x=.p U o/\Z.blks[U]?=some b/\(∀ h2:H,h2.tr.get b=st.h.tr.get b->jT ty h2 (some v)=some r)/\Eff M fr Z st r st.h K:=by
 unfold LO at h;split at h;case h_2=>cases h
 rename_i ty U o;cases hx with
 |p hU ho=>
  rename_i b off;split at h;case h_7=>cases h
  case h_6=>
   rename_i s t ks n e f c hb;split at h;case h_2=>cases h
   rename_i q;exact FT h hM hb hU ho q
  case h_3=>
   rename_i s t w mx n T' foc hb;split at h;case h_2=>cases h
   rename_i q;simp only[ae,bw] at q;obtain⟨b',cnt,pat,tr,x1,x2,x3,hn,hx,hT,all,hf⟩:=hM.TZ hb;rw[hU] at x1;cases x1;obtain⟨hi,hlt⟩:=Ca hM.vr.zr hM.vr.z0 q.1 ho hn;obtain⟨bo,hbo⟩:=all off hlt;have fin:Eff M fr Z st (.bool bo) st.h K:=by
    unfold Kq at h;split at h
    .rename_i e be;split at h
     .rename_i q2;obtain⟨i,bo',i1,i2,i3,i4⟩:=hf _ _ rfl;have:=jB hM.vr.zr hM.vr.z0 q2 i1 hi;have:i=off:=by omega
      subst this;rw[hbo] at i3;cases i3;exact⟨Z,J,_,.refl _,hM,.b i4,h⟩
     .exact Cb h hM hb hU x2 hn hx hT all hi hlt hbo
    .exact Cb h hM hb hU x2 hn hx hT all hi hlt hbo
   exact⟨U,o,b,_,rfl,hU,fun h2 e=>(vU (ro:=false) q.2 (e.trans x3)).trans hbo,fin⟩
  case h_4=>
   rename_i s E ro t tT v n k els hb;split at h;case h_2=>cases h
   rename_i q;simp only[ae,bw] at q;obtain⟨b',hp,x1,x2,x3,x4⟩:=hM.hr.at' _ _ _ hb;rw[hU] at x1;cases x1;cases x3 with
   |sp a1 a2 a3 a4 a5 a6 a7 a8=>rename_i bT cnt pat patT tr trT f oT;obtain⟨hi,hlt⟩:=Ca (cnt:=cnt+1) hM.vr.zr hM.vr.z0 q.1 ho (by exact_mod_cast a2.plus 1);exact⟨U,o,b,_,rfl,hU,fun h2 e=>(vU (ro:=false) q.2 (e.trans (x4 _ (aE ..)).1)).trans (a5 _ hlt),FQ h hM hb hU x2 a1 a2 a3 a4 a5 a6 a7 a8 hi hlt⟩
  case h_5=>
   rename_i s ro t n k lo hi els hb;split at h;case h_2=>cases h
   rename_i q;simp only[ae,bw] at q;obtain⟨b',hp,x1,x2,x3,x4⟩:=hM.hr.at' _ _ _ hb;rw[hU] at x1;cases x1;cases x3 with
   |so a1 a2 a3=>obtain⟨hi,hlt⟩:=Ca hM.vr.zr hM.vr.z0 q.1 ho a1.hn;exact⟨U,o,b,_,rfl,hU,fun h2 e=>(vU q.2 (e.trans ((x4 _ (aE ..)).1.trans (by rw[a3])))).trans (a2 _ hlt),FP h hM hb hU x2 a1 a2 a3 hi hlt⟩
  case h_2=>
   rename_i s t te ks B m n e a hb;split at h;case h_2=>cases h
   rename_i q;simp only[ae,bw] at q;obtain⟨b',bb,cnt,mm,pat,tr,L,g,x1,x2,hB,hm,hn,rv,hr,x3⟩:=hM.MD hb;rw[hU] at x1;cases x1;obtain⟨f,rfl,hf,hlt⟩:=rv.FN;obtain⟨e1,c,e2,e3⟩:=rv.told;have hoff:=FO hM.vr.zr hM.vr.z0 q.1 ho hf;subst hoff;refine⟨U,o,b,c,rfl,hU,fun h2 e=>?_,Z,J,a,.refl _,hM,e3,h⟩;simp only[jT,e,x3,q.2];exact e2
  rename_i s ro t l hb;obtain⟨b',n,pat,tr,ob,x1,x2,x3,cr,x4⟩:=hM.block hb;rw[hU] at x1;cases x1;have red:∀ h2:H,h2.tr.get b=st.h.tr.get b->jT (some ty) h2 (some (.ptr b off))=Ev.partAt ty.agg ty.size n pat tr off:=fun h2 e=>by simp only[jT,e,x4];cases ro<;>(simp only at x3;rw[x3])
  split at h
  .rename_i a ha;split at ha
   .rename_i q;rw[T.beq_true] at q;obtain⟨m,m1,m2⟩:=ho;have:off=o.o:=by rw[m2,q];omega
    subst this;obtain⟨r,r1,r2⟩:=iC hM.vr.z0 ha cr;exact⟨U,o,b,r,rfl,hU,fun h2 e=>(red h2 e).trans r1,Z,J,a,.refl _,hM,r2,h⟩
   .cases ha
  .obtain⟨Z',J',pre,post,ks,N,i,as,f,p,m,cnt,u,hK,hset,hp,hoff,hf,la,hm,hN,hlt,hle,cr',hpl⟩:=Ci h hM.vr cr ho;dsimp only at hK;unfold opt at hK;split at hK;case h_2=>cases hK
   rename_i a ha;obtain⟨r,r1,r2⟩:=Al u.vr.z0 ha hpl (q:=p+m * ks.length) (n:=n) (pat:=pat) (tr:=tr) (by omega) cr.all (cr'.elem hp hm hN hlt la);rw[<- hoff] at r1;refine⟨U,o,b,r,rfl,hU,fun h2 e=>(red h2 e).trans r1,Z',_,a,u.le,Mem.jZ (hM.up u) (b:=b) (hp:=[(b,ob)]) (s:=s) (U:=U) (ao:=.cl ro t l) (by rw[u.same.mem];exact hb) (u.le.b hU) (u.le.o x2) ?_,r2,hK⟩;rw[hset,x3];exact AOR.of cr'
theorem KK {l':List A}{o:Nat}(h0:Z.ints[0]?=some 0)(h:N9 l o c=some l'){n:Nat}{pat2:List V}{tr2:T V}(cr:CR Z l n pat tr)(hv:VC Z c v w)(hc:∀ i,i<n->cell n pat2 tr2 i=if o<=i/\i<o+w then vc v (i - o) else cell n pat tr i):CR Z l' n pat2 tr2/\o+w<=n:=by
 obtain⟨w',p1,p2,p3,p4,p5⟩:=BF h0 h cr.len;have:=p1.fn hv.len;subst this;refine⟨⟨p3,fun i hi=>?_,fun i x hx=>?_⟩,p2⟩
 .rw[hc i hi];split;·rename_i q;obtain⟨x,x1,_⟩:=hv.get (i - o) (by omega);rw[x1];rfl
  .exact cr.all i hi
 .rw[hc i (eT hx)] at hx;split at hx;·rename_i q;obtain⟨y,y1,y2⟩:=hv.get (i - o) (by omega);rw[hx] at y1;cases y1;have:=p4 _ _ (by omega) y2;rw[show o+(i - o)=i by omega] at this;exact this
  .rename_i q;exact p5 i x q (cr.at' i x hx)
theorem FU {ty:Option TY}{x y:A}(h:E3 ty x y J K=true)(hM:Mem M fr Z J st){w:V}(hx:AV Z x v)(hy:AV Z y w):∃ r h',mV ty st.h (some v) (some w)=some (r,h')/\Eff M fr Z st r h' K:=by
 unfold E3 at h;split at h;case h_2=>cases h
 rename_i ty U o c hc;obtain⟨wd,vc1⟩:=B8 hM.vr.zr hM.vr.z0 hc hy;cases hx with
 |p hU ho=>
  rename_i b off;split at h;case h_4=>cases h
  case h_3=>
   rename_i s t w' mx n T' foc hb;split at h;case h_2=>cases h
   split at h;case h_2=>cases h
   rename_i q;simp only[ae,T.beq_true] at q;have hwd:wd=1:=vc1.len.fn (gp.cons (eZ (Z:=Z) (a:=.k (.bool true)) rfl) .nil);subst hwd;obtain⟨x,hx1,hx2⟩:=vc1.get 0 (by omega);have hax:x=.bool true:=by obtain⟨a',a1,a2⟩:=CA.un (fun a' h=>by rw[aj.1 h];rfl) hx2;simp at a1;subst a1;cases a2;rfl
   subst hax;obtain⟨b',cnt,pat,tr,x1,x2,x3,hn,hx,hT,all,hf⟩:=hM.TZ hb;rw[hU] at x1;cases x1;obtain⟨hi,hlt⟩:=Ca hM.vr.zr hM.vr.z0 q.2 ho hn;obtain⟨pat2,tr2,f1,f2⟩:=om x3 vc1 q.1.symm (by omega) (show off+1<=cnt by omega);have g1:cell cnt pat2 tr2 off=some (.bool true):=by rw[f2 _ hlt,if_pos ⟨aF _,by omega⟩,cJ];exact hx1
   have g2:∀ i,i<cnt->i≠off->cell cnt pat2 tr2 i=cell cnt pat tr i:=fun i hi hne=>by rw[f2 _ hi,if_neg (by omega)]
   unfold EZ at h;split at h;case h_2=>cases h
   rename_i e be;split at h;case h_2=>cases h
   rename_i q2;simp only[ae] at q2;obtain⟨i,bo,i1,i2,i3,i4⟩:=hf _ _ rfl;have hio:=jB hM.vr.zr hM.vr.z0 q2.1 i1 hi;have hio:i=off:=by omega
   subst hio;have hbo:=Jf hM.vr.zr hM.vr.z0 q2.2 i4;subst hbo;have hone:tW cnt pat2 tr2=tW cnt pat tr+1:=uy (f:=i) (by simp only[i3];rfl) (by simp only[g1];rfl) cnt i2 fun j hj hne=>by simp only[g2 j hj hne]
   have hT2:Num Z (plus T' (Int.ofNat w')) ((w' * tW cnt pat2 tr2:Nat):Int):=by have:=hT.plus (Int.ofNat w');rw[hone,Nat.mul_succ];exact_mod_cast this
   have hle:w' * tW cnt pat2 tr2<=w' * mx:=Nat.mul_le_mul_left _ (bF (rP _) hx);obtain⟨Z',l',m'⟩:=hM.gG (ao':=.bc t w' mx n (plus T' (Int.ofNat w')) (some (e,.lit true))) (o':=.cells (some t) cnt pat2 tr2) hb hU x2 (.bc hn hx hT2 (fun j hj=>by
    by_cases e:j=i;·subst e;exact⟨_,g1⟩
    .rw[g2 j hj e];exact all j hj) fun e' be' q=>by
    cases q;exact⟨i,true,i1,i2,g1,.lit _⟩)
   have u:=Up.fact (p:=plus T' (Int.ofNat w')) (q:=(0,Int.ofNat (Nat.mul w' mx))) m'.vr (hT2.mono l') (eO m'.vr.z0 _) (show((w' * tW cnt pat2 tr2:Nat):Int)<=((w' * mx:Nat):Int) from Int.ofNat_le.2 hle);exact⟨_,_,f1,Z',_,_,l',m'.up u,.tp .nil,h⟩
  case h_2=>
   rename_i s t te ks B m n foc hb;split at h;case h_2=>cases h
   rename_i a;split at h;case h_2=>cases h
   rename_i q;simp only[ae,T.beq_true] at q;have hwd:wd=1:=vc1.len.fn (gp.cons (eZ (Z:=Z) q.2) .nil);subst hwd;obtain⟨x,hx1,hx2⟩:=vc1.get 0 (by omega);have hax:AV Z a x:=by obtain⟨a',a1,a2⟩:=CA.un (fun a' h=>by rw[aj.1 h];exact q.2) hx2;simp at a1;subst a1;exact a2
   obtain⟨b',bb,cnt,mm,pat,tr,L,g,x1,x2,hB,hm,hn,rv,nd,x3⟩:=hM.MD hb;rw[hU] at x1;cases x1;have hr:∀ p,p∈L.flatten->p.1≠b:=fun p hp e=>by simp only[aS,bC] at nd;exact nd.1 (aJ.2 ⟨p,hp,e⟩)
   have upd:∀ {f:Nat},off=f->f<cnt->∃ pat2 tr2,mV (some ty) st.h (some (.ptr b off)) (some w)=some (.tuple [],st.h.set b (some (.cells (some t) cnt pat2 tr2)))/\cell cnt pat2 tr2 f=some x/\∀ i,i<cnt->i≠f->cell cnt pat2 tr2 i=cell cnt pat tr i:=fun {f} ef hf=>by
    subst ef;obtain⟨pat2,tr2,f1,f2⟩:=om x3 vc1 q.1.symm (by omega) (show off+1<=cnt by omega);refine⟨pat2,tr2,f1,?_,fun i hi hne=>?_⟩;·rw[f2 _ hf,if_pos ⟨aF _,by omega⟩,cJ];exact hx1
    .rw[f2 _ hi,if_neg (by omega)]
   split at h
   .rename_i e a0;split at h;case h_2=>cases h
    rename_i q2;obtain⟨f,rfl,hf,hlt⟩:=rv.FN;obtain⟨e1,c,e2,e3⟩:=rv.told;have hoff:=FO hM.vr.zr hM.vr.z0 q2 ho hf;obtain⟨pat2,tr2,f1,f2,f3⟩:=upd hoff (bh hlt rv.le);obtain⟨Z',l',m'⟩:=hM.IQ (ao':=.rr t te ks B m n (some (e,a))) (o':=.cells (some t) cnt pat2 tr2) hb hU x2 hr (.rr (g:=some f) hB hm hn ⟨rv.le,fun i hi=>by
     by_cases ei:i=f;·subst ei;exact⟨x,f2⟩
     .rw[f3 i hi ei];exact rv.all i hi,rv.len,⟨hf,hlt⟩,fun i c hp h1 h2 h3=>by
     have ei:i≠f:=fun e=>h3 (by rw[e]);rw[f3 i (eT h2) ei] at h2;exact rv.own i c hp h1 h2 h3,fun i c hp e' a' h1 h2 h3 h4=>by
     cases h4;cases h3;rw[e1] at h1;cases h1;rw[f2] at h2;cases h2;exact⟨rfl,hax⟩⟩ (by simpa only[aS] using nd))
    exact⟨_,_,f1,Z',_,_,l',m',.tp .nil,h⟩
   .split at h;case h_2=>cases h
    rename_i q2;simp only[ae] at q2;have hoff:=FO hM.vr.zr hM.vr.z0 q2.1 ho hm;have hlt:mm<cnt:=by have:=eV hM.vr.zr hM.vr.z0 q2.2 (hm.plus 1) hn;omega
    have hg:g=none:=by
     have:=rv.hf;cases g with
     |none=>rfl
     |some _=>exact this.elim
    subst hg;obtain⟨pat2,tr2,f1,f2,f3⟩:=upd hoff hlt;have hfl:(L++[[]]).flatten=L.flatten:=by simp
    have hrr:AOR M Z (.rr t te ks B (plus m 1) n (some (m,a))) b ((b,.cells (some t) cnt pat2 tr2) :: (L++[[]]).flatten):=.rr (mm:=mm+1) (g:=some mm) hB (by exact_mod_cast hm.plus 1) hn ⟨hlt,fun i hi=>by
     by_cases ei:i=mm;·subst ei;exact⟨x,f2⟩
     .rw[f3 i hi ei];exact rv.all i hi,by simp[rv.len],⟨hm,by omega⟩,fun i c hp h1 h2 h3=>by
     have ei:i≠mm:=fun e=>h3 (by rw[e]);rw[f3 i (eT h2) ei] at h2;rw[aG] at h1;split at h1;·exact rv.own i c hp h1 h2 (fun q=>nomatch q)
     .rename_i hi;have:i - L.length=0:=by
       have:=(ai.1 h1).1;simp at this;omega
      rw[rv.len] at this hi;omega,fun i c hp e' a' h1 h2 h3 h4=>by
     cases h4;cases h3;rw[f2] at h2;cases h2;rw[aG,if_neg (by rw[rv.len];omega),rv.len,cJ] at h1;simp at h1;exact⟨h1,hax⟩⟩ (by rw[hfl];simpa only[aS] using nd)
    rw[hfl] at hrr;obtain⟨Z',l',m'⟩:=hM.IQ (o':=.cells (some t) cnt pat2 tr2) hb hU x2 hr hrr;exact⟨_,_,f1,Z',_,_,l',m',.tp .nil,h⟩
  rename_i s t l wd' hb hw;split at h;case h_2=>cases h
  rename_i q;simp only[ae,T.beq_true] at q;have e1:=(BD hM.vr.z0 hw).fn vc1.len;obtain⟨rfl,q2⟩:=q;have hpos:0<ty.size:=az q2;obtain⟨b',n,pat,tr,ob,x1,x2,x3,cr,x4⟩:=hM.block hb;rw[hU] at x1;cases x1;simp only at x3;subst x3;have tup:∀ Z':NV,AV Z' (.tp []) (.tuple []):=fun _=>.tp .nil;split at h
  .rename_i l' hl;split at hl;case h_2=>cases hl
   rename_i q;rw[T.beq_true] at q;obtain⟨m,m1,m2⟩:=ho;have:off=o.o:=by rw[m2,q];omega
   subst this;have hle:o.o+wd<=n:=by obtain⟨w',p1,p2,_⟩:=BF hM.vr.z0 hl cr.len;rw[<- p1.fn vc1.len];exact p2
   obtain⟨pat2,tr2,f1,f2⟩:=om x4 vc1 e1.symm (by omega) hle;obtain⟨Z',hle',hM'⟩:=hM.gG (o':=.cells t n pat2 tr2) hb hU x2 (.cl (KK hM.vr.z0 hl cr vc1 f2).1);exact⟨_,_,f1,Z',_,_,hle',hM',tup _,h⟩
  .obtain⟨Z',J',pre,post,ks,N,i,as,f,p,m,cnt,u,hK,hset,hp,hoff,hf,la,hm,hN,hlt,hle,cr',hpl⟩:=Ci h hM.vr cr ho;dsimp only at hK;unfold opt at hK;split at hK;case h_2=>cases hK
   rename_i as' has;dsimp only at hK;split at hK;case h_2=>cases hK
   rename_i hall;rw[bz] at hall;have hM1:=hM.up u;obtain⟨cs,hcs⟩:=fj (n:=n) (pat:=pat) (tr:=tr) as.length (p+m * ks.length) fun g hg=>cr.all _ (by omega);obtain⟨g1,g2⟩:=eP hcs;have hlen:∀ (as:List A),(∀ (g:Nat) (a:A),as[g]?=some a->plain a=true)->gp Z' as as.length:=fun as=>by
    induction as with
    |nil=>exact fun _=>.nil
    |cons x as ih=>intro hp;have:=gp.cons (eZ (Z:=Z') (hp 0 x rfl)) (ih fun g a hg=>hp (g+1) a (by simpa using hg));rw[bp] at this;exact this
   have hat:∀ (as:List A),(∀ (g:Nat) (a:A),as[g]?=some a->plain a=true)->∀ (g:Nat) (a:A) (c:V),as[g]?=some a->AV Z' a c->CA Z' as g c:=fun as=>by
    induction as with
    |nil=>intro _ g a c h;simp at h
    |cons x as ih=>
     intro hp g a c h hc;cases g with
     |zero=>simp at h;subst h;exact .here (hp 0 _ rfl) hc
     |succ g=>have:=CA.skip (eZ (Z:=Z') (hp 0 x rfl)) (ih (fun g a hg=>hp (g+1) a (by simpa using hg)) g a c (by simpa using h) hc);rw[bp] at this;exact this
   have hun:∀ (as:List A),(∀ a,a∈as->plain a=true)->∀ (g:Nat) (c:V),CA Z' as g c->∃ a,as[g]?=some a/\AV Z' a c:=fun as=>by
    induction as with
    |nil=>intro _ g c h;cases h
    |cons x as ih=>
     intro hp g c h;cases g with
     |zero=>exact⟨x,rfl,h.head (hp x (by simp))⟩
     |succ g=>have h':=CA.tail (w:=1) (i:=g) (eZ (hp x (by simp))) (by rw[bp];exact h);obtain⟨a,a1,a2⟩:=ih (fun a ha=>hp a (by simp[ha])) g c h';exact⟨a,by simpa using a1,a2⟩
   have vc2:VC Z' c w wd:=⟨vc1.len.mono u.le,fun j hj=>let ⟨x,a,b⟩:=vc1.get j hj;⟨x,a,b.mono u.le⟩,vc1.kind⟩;obtain⟨w',p1,p2,p3,p4,p5⟩:=BF u.vr.z0 has (hlen as hpl);have:=p1.fn vc2.len;subst this;have la':as'.length=ks.length:=by rw[<- la];exact(hlen as' fun g a hg=>hall a (aC hg)).fn p3
   obtain⟨pat2,tr2,f1,f2⟩:=om x4 vc1 e1.symm (by omega) (show off+w'<=n by omega);have crn:CR Z' (pre++.rw ks N (some (i,as')) :: post) n pat2 tr2:=by
    have hwr:∀ as2:List A,as2.length=ks.length->WV Z' (.rw ks N (some (i,as2))) (ks.length * cnt):=fun as2 hl=>.rw hN fun fe a e=>by cases e;exact⟨hl,m,hm,hlt⟩
    obtain⟨p',w2,l1,l2,l3⟩:=cr'.len.split;have:=l1.fn hp;subst this;have hpost:∃ wp,gp Z' post wp/\w2=ks.length * cnt+wp:=by
     cases l2 with
     |cons hw hpost=>exact⟨_,hpost,by rw[hw.fn (hwr as la)]⟩
    obtain⟨wp,hpost,ew⟩:=hpost;refine⟨by rw[l3,ew];exact l1.append (.cons (hwr as' la') hpost),fun g hg=>?_,fun g x hx=>?_⟩
    .rw[f2 g hg];split;·rename_i q;obtain⟨x,x1,_⟩:=vc2.get (g - off) (by omega);rw[x1];rfl
     .exact cr.all g hg
    .have hgn:=eT hx;rw[f2 g hgn] at hx;have hk:0<ks.length:=by omega
     by_cases hin:p'+m * ks.length<=g/\g<p'+m * ks.length+ks.length
     .
      obtain⟨j,rfl⟩:=bI hin.1;have hj:j<ks.length:=by omega
      have hca:CA Z' as' j x:=by
       split at hx;·rename_i q;obtain⟨y,y1,y2⟩:=vc2.get (p'+m * ks.length+j - off) (by omega);rw[hx] at y1;cases y1;have:=p4 _ _ (by omega) y2;rw[show f+(p'+m * ks.length+j - off)=j by omega] at this;exact this
       .rename_i q;refine p5 j x (by omega) ?_;obtain⟨a,ha⟩:∃ a,as[j]?=some a:=⟨_,ah (by omega)⟩;exact hat as hpl j a x ha (cr'.elem l1 hm hN hlt la j a ha x hx)
      obtain⟨a,a1,a2⟩:=hun as' hall j x hca;have:=CA.foc (l:=post) (ks:=ks) hN hm hlt hj a1 (hall a (aC a1)) a2;rw[bA];exact CA.mw l1 this
     .rw[if_neg (by omega)] at hx;have hc:=cr'.at' g x hx;rcases CA.split l1 hc with⟨q1,q2⟩|⟨j',q1,q2⟩
      .exact q2.kF
      .rw[q1];refine CA.mw l1 ?_;by_cases hj:j'<ks.length * cnt
       .cases q2 with
        |here p _=>cases p
        |skip q k=>have:=q.rwn hN;omega
        |row a b d q r=>exact .row a b (fun fe as2 e=>by cases e;exact d _ _ rfl) q r
        |foc a b d i' q p r=>rename_i n2 m2 ff aa;have:=b.fn hm;have:m2=m:=Int.ofNat.inj this;subst this;omega
       .obtain⟨j2,rfl⟩:=bI (show ks.length * cnt<=j' by omega);exact .skip (hwr as' la') (CA.tail (hwr as la) q2)
   obtain⟨Z2,hle2,hM2⟩:=hM1.gG (s:=s) (ao:=.cl false t l) (o':=.cells t n pat2 tr2) (by rw[u.same.mem];exact hb) (u.le.b hU) (u.le.o x2) (ao':=.cl false t (pre++.rw ks N (some (i,as')) :: post)) (.cl crn);refine⟨_,_,f1,Z2,_,_,u.le.trans hle2,hM2,tup _,?_⟩;rw[<- hset];exact hK
end
end Go.Ae
namespace Go.Ae
open Go.Ev
variable {a b n:Nat}{e:Operand->Option V}{Z:NV}{J:AS}
section
variable {Z:NV}{J:AS}
theorem iF {q p:LE}{K:LE->AS->Bool}(h:rK q p J K=true)(hv:VR Z J)(hq:Num Z q b)(hp:Num Z p a)(hle:a<=b):∃ Z' J' e,Up Z J Z' J'/\Num Z' e (b - a:Nat)/\K e J'=true:=by
 unfold rK at h;split at h
 .rename_i e;rw[T.beq_true] at e;have e1:p.2=a:=by
   have:=eO hv.z0 p.2;rw[show(0,p.2)=p from bQ e.symm rfl] at this;exact this.fn hp
  refine⟨Z,J,_,.refl hv,?_,h⟩;have:=hq.plus (Int.neg p.2);have e2:(b:Int)+Int.neg p.2=((b - a:Nat):Int):=by show(b:Int) + - p.2=_;omega
  rw[e2] at this;exact this
 .split at h
  .rename_i e;rw[T.beq_true] at e;refine⟨Z,J,_,.refl hv,?_,h⟩;obtain⟨y1,a1,a2⟩:=hq;obtain⟨y2,b1,b2⟩:=hp;rw[e,b1] at a1;cases a1;have e2:Int.sub q.2 p.2=((b - a:Nat):Int):=by show q.2 - p.2=_;omega
   rw[e2];exact eO hv.z0 _
  .obtain⟨Z',J',e,u,n,_,_,k⟩:=fM (z:=((b - a:Nat):Int)) h hv (fun e he=>by
    simp only[aq,aA,or_false] at he;subst he;exact⟨_,eO hv.z0 _,by omega⟩) (fun e he=>by
    split at he;·simp only[aq,aA,or_false] at he;subst he;exact⟨_,hq,by omega⟩
    .cases he)
   refine⟨Z',_,e,u.trans (Up.sum u.vr (hp.mono u.le) n (r:=q) (b:=((b - a:Nat):Int)) (by
    have e2:(a:Int)+((b - a:Nat):Int)=b:=by omega
    rw[e2];exact hq.mono u.le)),n,k⟩
theorem M7 {q p:LE}{K:LE->AS->Bool}(h:Rk p q J K=true)(hv:VR Z J)(hp:Num Z p a)(hq:Num Z q b):∃ Z' J' e,Up Z J Z' J'/\Num Z' e (a+b:Nat)/\K e J'=true:=by
 have cst:∀ {e:LE} {n:Nat},Nat.beq e.1 0=true->Num Z e n->e.2=n:=fun {e n} q hn=>by rw[T.beq_true] at q;have:=eO hv.z0 e.2;rw[show(0,e.2)=e from bQ q.symm rfl] at this;exact this.fn hn
 unfold Rk at h;split at h;·rename_i e;have e1:=cst e hq;refine⟨Z,J,_,.refl hv,?_,h⟩;have:=hp.plus q.2;rw[e1] at this ⊢;simpa using this
 .split at h;·rename_i e;have e1:=cst e hp;refine⟨Z,J,_,.refl hv,?_,h⟩;have:=hq.plus p.2;rw[e1] at this ⊢;rw[bp];simpa using this
  .split at h;·rename_i r hs;have:=GO hs (fun e he=>hv.zr.sm he) hp hq;exact⟨Z,J,r,.refl hv,by rw[eE];exact this,h⟩
   .obtain⟨Z',J',e,u,n,_,_,k⟩:=fM (z:=((a+b:Nat):Int)) h hv (fun e he=>by
     simp only[aq,aA,or_false] at he;rcases he with rfl|rfl
     .exact⟨_,hp,by omega⟩
     .exact⟨_,hq,by omega⟩) (fun e he=>by
     rcases aK.1 he with g|g;·obtain⟨c,c1,c2⟩:=Jx hv.zr hv.z0 hp hq g;exact⟨c,c1,by rw[eE];exact c2⟩
     .obtain⟨c,c1,c2⟩:=Jx hv.zr hv.z0 hq hp g;exact⟨c,c1,by rw[eE,Int.add_comm];exact c2⟩)
    have n':Num Z' e ((a:Int)+(b:Int)):=by rw[<- eE];exact n
    exact⟨Z',_,e,u.trans (Up.sum u.vr (hp.mono u.le) (hq.mono u.le) n'),n,k⟩
def Is (x:Option V)(d hi:Nat):Option Nat:=
 match x with
 |none=>some d
 |some (.int _ n)=>idx n (Nat.succ hi)
 |some _=>none
def GP (lo hi mx:Option V)(len cap:Nat):Option (Nat×Nat×Nat):=
 match Is mx cap cap with
 |some m=>match Is hi len m with
  |some h=>match Is lo 0 h with
   |some l=>some (l,h,m)
   |none=>none
  |none=>none
 |none=>none
def Jy (Z:NV)(x:Option A)(y:Option V):Prop:=match x,y with
 |none,none=>True
 |some a,some v=>AV Z a v
 |_,_=>False
theorem Jy.mono {Z Z':NV}(hl:Z.le Z'){x:Option A}{y:Option V}(h:Jy Z x y):Jy Z' x y:=by
 unfold Jy at h ⊢;split at h;·trivial
 .exact h.mono hl
 .exact h
theorem AM (hv:VR Z J){x:Option A}{y:Option V}(hx:Jy Z x y){d hi e:LE}(h:OI J.z x d hi=some e){m:Nat}(hd:Num Z d n)(hh:Num Z hi m):∃ k:Nat,Is y n m=some k/\Num Z e k:=by
 unfold OI at h;split at h
 .cases h;cases y with
  |none=>exact⟨n,rfl,hd⟩
  |some _=>cases hx
 .rename_i a;cases y with
  |none=>cases hx
  |some v=>
   split at h
   .rename_i p hp;obtain⟨z,rfl,hz⟩:=kQ hv.z0 (k:=p.1) (e:=p.2) hp hx;split at h;·rename_i q;simp only[ae] at q;cases h;have q1:=eV hv.zr hv.z0 q.1 (eO hv.z0 _) hz;have q2:=eV hv.zr hv.z0 q.2 hz hh;obtain⟨k,rfl,k1,k2⟩:=DW (n:=Nat.succ m) q1 (by simp;omega);exact⟨k,k2,hz⟩
    .cases h
   .cases h
theorem jJ (hv:VR Z J){lo hi mx:Option A}{lo' hi' mx':Option V}(hl:Jy Z lo lo')(hh:Jy Z hi hi')(hm:Jy Z mx mx'){len cap:LE}{K:LE->LE->LE->Bool}(h:rL J.z lo hi mx len cap K=true){c:Nat}(hn:Num Z len n)(hc:Num Z cap c):
  ∃ l h' m:Nat,∃ el eh em,GP lo' hi' mx' n c=some (l,h',m)/\Num Z el l/\Num Z eh h'/\Num Z em m/\l<=h'/\h'<=m/\K el eh em=true:=by
 unfold rL at h;split at h;case h_2=>cases h
 rename_i em hem;split at h;case h_2=>cases h
 rename_i eh heh;split at h;case h_2=>cases h
 rename_i el hel;split at h;case h_2=>cases h
 rename_i q;simp only[ae] at q;obtain⟨m,m1,m2⟩:=AM hv hm hem hc hc;obtain⟨k,k1,k2⟩:=AM hv hh heh hn m2;obtain⟨l,l1,l2⟩:=AM hv hl hel (n:=0) (eO hv.z0 _) k2;have q1:=eV hv.zr hv.z0 q.1.2 l2 k2;have q2:=eV hv.zr hv.z0 q.2 k2 m2;exact⟨l,k,m,el,eh,em,by simp only[GP,m1,k1,l1],l2,k2,m2,by omega,by omega,h⟩
theorem CE {o:Off}{l m:LE}{size:Nat}{K:Off->AS->Bool}(h:ID o l m size J K=true)(hv:VR Z J)(ho:pC Z o n)(hl:Num Z l a)(hm:Num Z m b):∃ J' o',Up Z J Z J'/\pC Z o' (nE n a size b)/\K o' J'=true:=by
 unfold ID at h;split at h
 .rename_i q;simp only[isZ,ae,T.beq_true,iT] at q;have:a=0:=by
   have:=eO hv.z0 0;rw[show((0:Nat),(0:Int))=l from bQ q.1.symm q.2.symm] at this;have:=this.fn hl;omega
  subst this;refine⟨J,o,.refl hv,?_,h⟩;unfold nE;split;·exact ho
  .simpa using ho
 .obtain⟨J',u,k⟩:=iu h hv (.eq hm hl);by_cases e:b=a;·subst e;simp only[decide_true] at k;refine⟨J',o,u,?_,k⟩;unfold nE;rw[(T.beq_true).2 rfl];exact ho
  .have:¬ ((b:Int)=(a:Int)):=fun q=>e (Int.ofNat.inj q);simp only[this,decide_false] at k;unfold opt at k;split at k;·rename_i o' ho';refine⟨J',o',u,?_,k⟩;unfold nE;rw[T.beq_false e];exact Off.rU hv.z0 ho' ho hl
   .cases k
end
theorem GQ (e:Operand->Option V)(lo hi mx:Option Operand)(len cap:Nat){lo' hi' mx':Option V}(h1:∀ o,lo=some o->lo'=e o/\(e o).isSome=true)(h1':lo=none->lo'=none)(h2:∀ o,hi=some o->hi'=e o/\(e o).isSome=true)(h2':hi=none->hi'=none)(h3:∀ o,mx=some o->mx'=e o/\(e o).isSome=true)(h3':mx=none->mx'=none):wJ e lo hi mx len cap=GP lo' hi' mx' len cap:=by
 have key:∀ (x:Option Operand) (x':Option V) (d h:Nat),(∀ o,x=some o->x'=e o/\(e o).isSome=true)->(x=none->x'=none)->bnd x e d h=Is x' d h:=fun x x' d h a b=>by
  cases x with
  |none=>rw[b rfl];rfl
  |some o=>obtain⟨c,d'⟩:=a o rfl;rw[c];obtain⟨v,hv⟩:=bu.1 d';simp only[bnd,Is,hv];cases v<;>rfl
 unfold wJ GP;rw[key mx mx' _ _ h3 h3'];cases Is mx' cap cap with
 |none=>rfl
 |some m=>
  simp only;rw[key hi hi' _ _ h2 h2'];cases Is hi' len m with
  |none=>rfl
  |some k=>simp only;rw[key lo lo' _ _ h1 h1'];cases Is lo' 0 k<;>rfl
structure OpO (Z:NV)(e:Operand->Option V)(o:Option Operand)(a:Option A)(v:Option V):Prop where
 some':∀ x,o=some x->v=e x/\(e x).isSome=true
 none':o=none->v=none
 rel:Jy Z a v
theorem OpO.sK {o:Option Operand}{v:Option V}(h:OpO Z e o none v):o=none:=by
 cases o with
 |none=>rfl
 |some x=>obtain⟨a,b⟩:=h.some' x rfl;have:=h.rel;rw[a] at this;obtain⟨y,hy⟩:=bu.1 b;rw[hy] at this;cases this
theorem OpO.AN {o:Option Operand}{a:A}{v:Option V}(h:OpO Z e o (some a) v):∃ x,o=some x:=by
 cases o with
 |some x=>exact⟨x,rfl⟩
 |none=>have:=h.rel;rw[h.none' rfl] at this;cases this
theorem M8 {te:TY}{x:A}{lo hi:Option A}(hv:VR Z J){v:V}(hx:AV Z x v):AV Z (Rn te x lo hi J) v:=by
 unfold Rn;split
 .split
  .split;·rename_i q;exact KZ hv.zr hv.z0 q hx
   .exact hx
  .exact hx
 .exact hx
theorem pD {α:Type}:∀ (n:Nat) (l:List α),n<=l.length->∃ r,takeN n l=some r
 |0,l,_=>⟨[],rfl⟩
 |n+1,[],h=>by simp at h
 |n+1,a :: l,h=>by obtain⟨r,hr⟩:=pD n l (by simpa using h);exact⟨a :: r,by simp only[takeN,hr]⟩
theorem CG {G:Γ}{ty:TY}(hd:ty.desc=.string){la ha:Option A}{n:LE}{K:A->AS->Bool}{F:LE->LE->LE->Bool}(hv:VR Z J){x:Operand}{lo hi mx:Option Operand}{s:List UInt8}(ex:e x=some (.str s)){lv hv' mv:Option V}(hlo:OpO Z e lo la lv)(hhi:OpO Z e hi ha hv')(hmx:OpO Z e mx none mv)(hn:Num Z n (s.length:Int))(h:rL J.z la ha none n n F=true)
  (hF:∀ (p q:LE) (a b:Nat),Num Z p (a:Int)->Num Z q (b:Int)->a<=b/\b<=s.length->∀ (m:LE),F p q m=true->∃ r,takeN (Nat.sub b a) (mM a s)=some r/\Res Z J (.str r) K):
  ∃ r,gN G (some ty) e x lo hi mx=some r/\Res Z J r K:=by
 have e1:=hmx.sK;subst e1;have e2:=hmx.none' rfl;subst e2;have beq:=fun len cap=>GQ e lo hi none len cap hlo.some' hlo.none' hhi.some' hhi.none' hmx.some' hmx.none';obtain⟨l,k,m,el,eh,em,b1,b2,b3,b4,b5,b6,hK⟩:=jJ hv hlo.rel hhi.rel hmx.rel h hn hn;have hm:m=s.length:=by
  unfold GP at b1;simp only[Is] at b1;split at b1
  .split at b1;·cases b1;rfl
   .cases b1
  .cases b1
 obtain⟨r,hr,hres⟩:=hF el eh l k b2 b3 ⟨b5,by omega⟩ _ hK;refine⟨.str r,?_,hres⟩;simp only[gN,ex,hd,beq,b1,hr]
theorem GS {G:Γ}{ty:Option TY}{xa:A}{la ha ma:Option A}{K:A->AS->Bool}(h:E4 G ty xa la ha ma J K=true)(hv:VR Z J){x:Operand}{lo hi mx:Option Operand}{v:V}(hx:AV Z xa v)(ex:e x=some v){lv hv' mv:Option V}(hlo:OpO Z e lo la lv)(hhi:OpO Z e hi ha hv')(hmx:OpO Z e mx ma mv):
  ∃ r,gN G ty e x lo hi mx=some r/\Res Z J r K:=by
 unfold E4 at h;split at h;·cases h
 rename_i ty;split at h;·cases h
 rename_i q;have hno:(match mx,hi with
   |some _,none=>true
   |_,_=>false)=false:=by
  rcases mx with _|m;·rfl
  .rcases hi with _|y
   .cases ma with
    |none=>exact absurd hmx.sK (by simp)
    |some _=>cases ha with
     |none=>simp at q
     |some _=>obtain⟨x,hx⟩:=hhi.AN;cases hx
   .rfl
 have beq:=fun len cap=>GQ e lo hi mx len cap hlo.some' hlo.none' hhi.some' hhi.none' hmx.some' hmx.none';have num0:∀ n:Nat,Num Z (0,Int.ofNat n) n:=fun n=>eO hv.z0 _;have hx:AV Z (IE G ty xa la ha J) v:=by
  unfold IE;split;·exact M8 hv hx
  .exact hx
 generalize IE G ty xa la ha J=xa at h hx;split at h
 .rename_i elem U w N n hd;cases hx with
  |su0 hn=>
   unfold opt at h;split at h;case h_2=>cases h
   rename_i te hte;dsimp only at h;unfold Rm at h;split at h;case h_2=>cases h
   obtain⟨Z1,J1,ec,u1,hcn,_,_,k1⟩:=fM h hv 0 (fun e he=>by simp only[aq,aA,or_false] at he;subst he;exact⟨_,hn,by omega⟩) (fun e he=>nomatch he);obtain⟨l,k,m,el,eh,em,b1,b2,b3,b4,b5,b6,hK⟩:=jJ u1.vr (hlo.rel.mono u1.le) (hhi.rel.mono u1.le) (hmx.rel.mono u1.le) (n:=0) (c:=0) k1 (hn.mono u1.le) hcn;split at hK;case h_2=>cases hK
   rename_i qh;have hkl:=eV u1.vr.zr u1.vr.z0 qh b3 (hn.mono u1.le);obtain⟨Z2,J2,d,u2,hd2,k2⟩:=iF hK u1.vr b3 b2 b5;have hd0:k - l=0:=by omega
   rw[hd0] at hd2;refine⟨.nils,?_,Z2,J2,_,u1.trans u2,.su0 hd2,k2⟩;simp only[gN,ex,hd,hte,beq,b1];cases mx<;>cases hi<;>first|rfl|cases hno
  |su hU hN hn ho hl hc=>
   rename_i b off len cnt mm cap;unfold opt at h;split at h;case h_2=>cases h
   rename_i te hte;dsimp only at h;unfold Rm at h;split at h;case h_2=>cases h
   rename_i qw;rw[T.beq_true] at qw;have hcap:∃ c:Nat,len<=c/\(cap=.known c\/(cap=.atl c w)):=by
    cases cap with
    |known c=>exact⟨c,hc,.inl rfl⟩
    |atl c es=>exact⟨c,hc.1,.inr (by rw[hc.2])⟩
   obtain⟨c,hc1,hc2⟩:=hcap;obtain⟨Z1,J1,ec,u1,hcn,_,_,k1⟩:=fM h hv (c:Int) (fun e he=>by simp only[aq,aA,or_false] at he;subst he;exact⟨_,hn,by omega⟩) (fun e he=>nomatch he);obtain⟨l,k,m,el,eh,em,b1,b2,b3,b4,b5,b6,hK⟩:=jJ u1.vr (hlo.rel.mono u1.le) (hhi.rel.mono u1.le) (hmx.rel.mono u1.le) k1 (hn.mono u1.le) hcn;split at hK;case h_2=>cases hK
   rename_i qh;have hkl:=eV u1.vr.zr u1.vr.z0 qh b3 (hn.mono u1.le);obtain⟨Z2,J2,d,u2,hd2,k2⟩:=iF hK u1.vr b3 b2 b5;have hkl:k<=len:=by omega
   have fin:∀ (off':Nat) (cap':Cap),(∃ m':Nat,off'=m' * w/\m'+(k - l)<=cnt)->T3 w (k - l) cap'->Res Z J (.slice b off' (Nat.sub k l) cap') K:=fun off' cap' ⟨m',e1,e2⟩ hcs=>⟨Z2,J2,_,u1.trans u2,.su (u2.le.b (u1.le.b hU)) ((hN.mono u1.le).mono u2.le) hd2 e1 e2 hcs,k2⟩;have mv:∃ m':Nat,nE off l te.size m=m' * w/\m'+(k - l)<=cnt:=by
    unfold nE;split;·rename_i e;rw[T.beq_true] at e;exact⟨mm,ho,by omega⟩
    .refine⟨mm+l,?_,by omega⟩;show off+l * te.size=_;rw[ho,qw,bH]
   have mv2:∃ m':Nat,Nat.add off (Nat.mul l te.size)=m' * w/\m'+(k - l)<=cnt:=by refine⟨mm+l,?_,by omega⟩;show off+l * te.size=_;rw[ho,qw,bH]
   rcases hc2 with rfl|rfl;·refine⟨.slice b (nE off l te.size m) (Nat.sub k l) (.known (Nat.sub m l)),?_,fin _ _ mv (by show k - l<=m - l;omega)⟩;simp only[gN,ex,hd,hte,beq,b1];cases mx<;>cases hi<;>first|rfl|cases hno
   .cases mx with
    |none=>refine⟨.slice b (Nat.add off (Nat.mul l te.size)) (Nat.sub k l) (.atl (Nat.sub m l) w),?_,fin _ _ mv2 ⟨by show k - l<=m - l;omega,rfl⟩⟩;simp only[gN,ex,hd,hte,beq,b1];rw[show(Nat.beq te.size w&&Nat.ble k m)=true by rw[(T.beq_true).2 qw,aH b6];rfl]
    |some xm=>
     obtain⟨xh,rfl⟩:∃ xh,hi=some xh:=by
      cases hi with
      |none=>cases hno
      |some y=>exact⟨y,rfl⟩
     by_cases eml:m=l
     .subst eml;have e0:Nat.sub k m=0:=by show k - m=0;omega
      have f0:=fin off (.atl 0 w) ⟨mm,ho,by omega⟩ ⟨by omega,rfl⟩;rw[e0] at f0;refine⟨.slice b off 0 (.atl 0 w),?_,f0⟩;simp only[gN,ex,hd,hte,beq,b1];rw[(T.beq_true).2 rfl]
     .refine⟨.slice b (Nat.add off (Nat.mul l te.size)) (Nat.sub k l) (.known (Nat.sub m l)),?_,fin _ _ mv2 (by show k - l<=m - l;omega)⟩;simp only[gN,ex,hd,hte,beq,b1];rw[T.beq_false eml]
 .rename_i n elem b o hd;cases hx;unfold opt at h;split at h;case h_2=>cases h
  rename_i te hte;dsimp only at h;split at h;case h_2=>cases h
  rename_i ki i;split at h;case h_2=>cases h
  rename_i q;have q:i<n:=az q;have e1:=hmx.sK;have e2:=hhi.sK;subst e1 e2;obtain⟨xl,rfl⟩:=hlo.AN;obtain⟨a1,a2⟩:=hlo.some' _ rfl;have a3:=hlo.rel;obtain⟨vl,hvl⟩:=bu.1 a2;rw[a1,hvl] at a3;have a3:AV Z (.k (.int ki (.ofNat i))) vl:=a3;cases a3;have hidx:idx (Int.ofNat i) (Nat.succ n)=some i:=by simp only[idx];rw[show Nat.blt i (Nat.succ n)=true from aH (by omega)]
  refine⟨_,?_,.now hv (.k _) h⟩;simp only[gN,ex,hd,hte,wJ,bnd,hvl,hidx];unfold nE;rw[T.beq_false (show n≠i by omega)]
 .rename_i n elem U o hd;cases hx with
  |p hU ho=>
   unfold opt at h;split at h;case h_2=>cases h
   rename_i te hte;dsimp only at h;obtain⟨l,k,m,el,eh,em,b1,b2,b3,b4,b5,b6,hK⟩:=jJ hv hlo.rel hhi.rel hmx.rel h (num0 n) (num0 n);obtain⟨J1,o1,u1,ho1,k1⟩:=CE hK hv ho b2 b4;obtain⟨Z2,J2,d,u2,hd2,k2⟩:=iF k1 u1.vr (b3.mono u1.le) (b2.mono u1.le) b5;obtain⟨Z3,J3,c,u3,hc3,k3⟩:=iF k2 u2.vr ((b4.mono u1.le).mono u2.le) ((b2.mono u1.le).mono u2.le) (by omega);refine⟨.slice _ (nE _ l te.size m) (Nat.sub k l) (.known (Nat.sub m l)),?_,Z3,J3,_,(u1.trans u2).trans u3,.sl (u3.le.b (u2.le.b hU)) ((ho1.mono u2.le).mono u3.le) (hd2.mono u3.le) (.kn hc3),k3⟩;simp only[gN,ex,hd,hte,beq,b1];cases mx<;>cases hi<;>first|rfl|cases hno
 .rename_i elem U o len c hd;cases hx with
  |sl hU ho hn hc=>
   cases hc with
   |kn hc=>
    unfold opt at h;split at h;case h_2=>cases h
    rename_i te hte;dsimp only at h;obtain⟨l,k,m,el,eh,em,b1,b2,b3,b4,b5,b6,hK⟩:=jJ hv hlo.rel hhi.rel hmx.rel h hn hc;obtain⟨J1,o1,u1,ho1,k1⟩:=CE hK hv ho b2 b4;obtain⟨Z2,J2,d,u2,hd2,k2⟩:=iF k1 u1.vr (b3.mono u1.le) (b2.mono u1.le) b5;obtain⟨Z3,J3,c,u3,hc3,k3⟩:=iF k2 u2.vr ((b4.mono u1.le).mono u2.le) ((b2.mono u1.le).mono u2.le) (by omega);refine⟨.slice _ (nE _ l te.size m) (Nat.sub k l) (.known (Nat.sub m l)),?_,Z3,J3,_,(u1.trans u2).trans u3,.sl (u3.le.b (u2.le.b hU)) ((ho1.mono u2.le).mono u3.le) (hd2.mono u3.le) (.kn hc3),k3⟩;simp only[gN,ex,hd,hte,beq,b1];cases mx<;>cases hi<;>first|rfl|cases hno
 .rename_i elem U o len c es hd;cases hx with
  |sl hU ho hn hc=>
   cases hc with
   |al hc=>
    split at h
    .have hm0:=hmx.sK;subst hm0;unfold opt at h;split at h;case h_2=>cases h
     rename_i te hte;dsimp only at h;split at h;case h_2=>cases h
     rename_i qs;obtain⟨l,k,m,el,eh,em,b1,b2,b3,b4,b5,b6,hK⟩:=jJ hv hlo.rel hhi.rel hmx.rel h hn hc;split at hK;case h_2=>cases hK
     rename_i o' ho';have ho1:=Off.rU hv.z0 ho' ho b2;obtain⟨Z2,J2,d,u2,hd2,k2⟩:=iF hK hv b3 b2 b5;obtain⟨Z3,J3,c,u3,hc3,k3⟩:=iF k2 u2.vr (b4.mono u2.le) (b2.mono u2.le) (by omega);refine⟨.slice _ (Nat.add _ (Nat.mul l te.size)) (Nat.sub k l) (.atl (Nat.sub m l) es),?_,Z3,J3,_,u2.trans u3,.sl (u3.le.b (u2.le.b hU)) ((ho1.mono u2.le).mono u3.le) (hd2.mono u3.le) (.al hc3),k3⟩;simp only[gN,ex,hd,hte,beq,b1];rw[show(Nat.beq te.size es&&Nat.ble k m)=true by rw[qs,aH b6];rfl]
    .obtain⟨xm,hxm⟩:=hmx.AN;subst hxm;obtain⟨xh,rfl⟩:∃ xh,hi=some xh:=by
      cases hi with
      |none=>cases hno
      |some y=>exact⟨y,rfl⟩
     unfold opt at h;split at h;case h_2=>cases h
     rename_i te hte;dsimp only at h;obtain⟨l,k,m,el,eh,em,b1,b2,b3,b4,b5,b6,hK⟩:=jJ hv hlo.rel hhi.rel hmx.rel h hn hc;obtain⟨J1,u1,k1⟩:=iu hK hv (.eq b4 b2);by_cases eml:m=l;·subst eml;simp only[decide_true] at k1;refine⟨.slice _ _ 0 (.atl 0 es),?_,Z,J1,_,u1,.sl hU ho (eO hv.z0 0) (.al (eO hv.z0 0)),k1⟩;simp only[gN,ex,hd,hte,beq,b1];rw[(T.beq_true).2 rfl]
     .have:¬ ((m:Int)=(l:Int)):=fun q=>eml (Int.ofNat.inj q);simp only[this,decide_false] at k1;split at k1;case h_2=>cases k1
      rename_i o' ho';have ho1:=Off.rU hv.z0 ho' ho b2;obtain⟨Z2,J2,d,u2,hd2,k2⟩:=iF k1 u1.vr b3 b2 b5;obtain⟨Z3,J3,c,u3,hc3,k3⟩:=iF k2 u2.vr (b4.mono u2.le) (b2.mono u2.le) (by omega);refine⟨.slice _ (Nat.add _ (Nat.mul l te.size)) (Nat.sub k l) (.known (Nat.sub m l)),?_,Z3,J3,_,(u1.trans u2).trans u3,.sl (u3.le.b (u2.le.b hU)) ((ho1.mono u2.le).mono u3.le) (hd2.mono u3.le) (.kn hc3),k3⟩;simp only[gN,ex,hd,hte,beq,b1];rw[T.beq_false eml]
 .rename_i elem hd;cases hx;unfold opt at h;split at h;case h_2=>cases h
  rename_i te hte;dsimp only at h;obtain⟨l,k,m,el,eh,em,b1,b2,b3,b4,b5,b6,hK⟩:=jJ hv hlo.rel hhi.rel hmx.rel h (n:=0) (c:=0) (eO hv.z0 0) (eO hv.z0 0);refine⟨.nils,?_,.now hv (.k _) hK⟩;simp only[gN,ex,hd,hte,beq,b1];cases mx<;>cases hi<;>first|rfl|cases hno
 .rename_i j y hd;cases hx with
  |@s _ _ s h1 h2=>
   split at h;·exact CG hd hv ex hlo hhi hmx ⟨_,h2,by simp⟩ h fun p q a b k1 k2 hab _ hK=>by obtain⟨r,hr⟩:=pD (Nat.sub b a) (mM a s) (by rw[iM,bO];show b - a<=_;omega);exact⟨r,hr,vM hK hv r⟩
   .cases h
 .rename_i l hd;cases hx;split at h
  .exact CG hd hv ex hlo hhi hmx (eO hv.z0 _) h fun p q a b k1 k2 hab _ hK=>by
    split at hK
    .rename_i i j qq h1 h2;simp only[ae,T.beq_true] at qq;have ea:(i:Int)=a:=by
      have:=eO hv.z0 p.2;rw[show(0,p.2)=p from bQ qq.1.symm rfl,h1] at this;exact this.fn k1
     have eb:(j:Int)=b:=by have:=eO hv.z0 q.2;rw[show(0,q.2)=q from bQ qq.2.symm rfl,h2] at this;exact this.fn k2
     have ea:i=a:=by omega
     have eb:j=b:=by omega
     subst ea eb;unfold opt at hK;split at hK;·rename_i r r1;exact⟨r,r1,.now hv (.k _) hK⟩
     .cases hK
    .obtain⟨r,hr⟩:=pD (Nat.sub b a) (mM a l) (by rw[iM,bO];show b - a<=_;omega);exact⟨r,hr,vM hK hv r⟩
  .cases h
 .cases h
end Go.Ae
namespace Go.Ae
open Go.Ev
variable {Z:NV}{ks:List EK}{e N:LE}{cnt n w m o U:Nat}{pat vs:List V}{tr:T V}{k:EK}{v u:V}{x y:A}{l:List A}{t:Option TypeId}{z:ZN}{te:TY}{elem:TypeId}
theorem tS.cr (h:tS Z ks cnt n pat tr)(he:Num Z e cnt):CR Z [.rw ks e none] n pat tr:=by
 refine⟨?_,fun i hi=>?_,fun i c hc=>?_⟩;·have:=gp.cons (Z:=Z) (a:=.rw ks e none) (l:=[]) (.rw he fun _ _ q=>nomatch q) .nil;rw[bX,<- h.len] at this;exact this
 .obtain⟨c,k,a,_⟩:=h.at' i hi;rw[a];rfl
 .obtain⟨c',k,a,b,d⟩:=h.at' i (eT hc);rw[hc] at a;cases a;exact .row he (by rw[<- h.len];exact eT hc) (fun _ _ q=>nomatch q) b d
theorem CR.LX (h:CR Z [.rw ks e none] n pat tr):∃ cnt:Nat,Num Z e cnt/\tS Z ks cnt n pat tr:=by
 cases hl:h.len with
 |cons hw hn=>
  cases hn;cases hw with
  |one q=>exact absurd rfl (q _ _ _)
  |@rw _ _ _ cnt he _=>
   refine⟨cnt,he,rfl,fun i hi=>?_⟩;obtain⟨c,c1,c2⟩:=h.get hi;generalize ei:i=j at c2;cases c2 with
   |here p _=>cases p
   |skip q k=>cases k
   |row a b d q r=>subst ei;exact⟨c,_,c1,q,r⟩
section
variable {Z:NV}{z:ZN}(hz:ZR Z z)(h0:Z.ints[0]?=some 0)
theorem BL (hz:ZR Z z)(h0:Z.ints[0]?=some 0){a:A}(h:pY z a=some k)(ha:AV Z a v):KV Z k v:=by
 unfold pY at h;split at h;·cases h;cases ha;exact .cst _
 .split at h
  .rename_i p hp;obtain⟨x,rfl,hx⟩:=kQ h0 (k:=p.1) (e:=p.2) hp ha;split at h;·rename_i q;cases h;exact .int (uh hz h0 q hx) (fun e he=>by cases he;exact⟨x,hx,bY _⟩) fun e he=>by cases he;exact⟨x,hx,bY _⟩
   .cases h
  .split at h;·rename_i q;cases h;obtain⟨b,rfl,_⟩:=yq q ha;exact .bool b
   .split at h;·rename_i q;cases h;obtain⟨b,rfl⟩:=wB q ha;exact .str b
    .cases h
theorem lE (h0:Z.ints[0]?=some 0){a:EK}(hz:ZR Z z)(h:Dn z a=some k)(ha:KV Z a v):KV Z k v:=by
 unfold Dn at h;split at h
 .cases ha;unfold Kr at h;split at h
  .split at h;·rename_i q;cases h;exact .int (uh hz h0 q (eO h0 _)) (fun e he=>by cases he;exact⟨_,eO h0 _,bY _⟩) fun e he=>by cases he;exact⟨_,eO h0 _,bY _⟩
   .cases h
  .cases h;exact .bool _
  .cases h;exact .str _
  .cases h
 .cases h;exact ha
theorem Fe (hz:ZR Z z)(h0:Z.ints[0]?=some 0){a b:Option LE}{x:Int}:(Low Z a x->Low Z (IF z a b) x)/\(Low Z b x->Low Z (IF z a b) x):=by
 unfold IF;split
 .rename_i p q;split;·rename_i g;refine⟨fun h=>h,fun h e he=>?_⟩;cases he;obtain⟨y,y1,y2⟩:=h _ rfl;obtain⟨w,w1,w2⟩:=yp hz h0 g y1;exact⟨w,w1,by omega⟩
  .split;·rename_i g;refine⟨fun h e he=>?_,fun h=>h⟩;cases he;obtain⟨y,y1,y2⟩:=h _ rfl;obtain⟨w,w1,w2⟩:=yp hz h0 g y1;exact⟨w,w1,by omega⟩
   .exact⟨fun _ e he=>(nomatch he),fun _ e he=>nomatch he⟩
 .exact⟨fun _ e he=>(nomatch he),fun _ e he=>nomatch he⟩
theorem Ff (hz:ZR Z z)(h0:Z.ints[0]?=some 0){a b:Option LE}{x:Int}:(ug Z a x->ug Z (IG z a b) x)/\(ug Z b x->ug Z (IG z a b) x):=by
 unfold IG;split
 .rename_i p q;split;·rename_i g;refine⟨fun h e he=>?_,fun h=>h⟩;cases he;obtain⟨y,y1,y2⟩:=h _ rfl;obtain⟨w,w1,w2⟩:=mU hz h0 g y1;exact⟨w,w1,by omega⟩
  .split;·rename_i g;refine⟨fun h=>h,fun h e he=>?_⟩;cases he;obtain⟨y,y1,y2⟩:=h _ rfl;obtain⟨w,w1,w2⟩:=mU hz h0 g y1;exact⟨w,w1,by omega⟩
   .exact⟨fun _ e he=>(nomatch he),fun _ e he=>nomatch he⟩
 .exact⟨fun _ e he=>(nomatch he),fun _ e he=>nomatch he⟩
theorem Fg (hz:ZR Z z)(h0:Z.ints[0]?=some 0){a b:EK}(h:LP z a b=some k):(KV Z a v->KV Z k v)/\(KV Z b v->KV Z k v):=by
 unfold LP at h;split at h
 .rename_i q;cases h;split at q;·have:=nu q;subst this;exact⟨id,id⟩
  .cases q
 .split at h
  .rename_i a' b' ha hb;have key:(KV Z a' v->KV Z k v)/\(KV Z b' v->KV Z k v):=by
    unfold OJ at h;split at h
    .split at h
     .rename_i q;have q:=of_decide_eq_true q;subst q;cases h;refine⟨fun h=>?_,fun h=>?_⟩
      .cases h with
       |int r l u=>exact .int r ((Fe hz h0).1 l) ((Ff hz h0).1 u)
      .cases h with
       |int r l u=>exact .int r ((Fe hz h0).2 l) ((Ff hz h0).2 u)
     .cases h
    .cases h;exact⟨id,id⟩
    .cases h;exact⟨id,id⟩
    .cases h
   exact⟨fun q=>key.1 (lE h0 hz ha q),fun q=>key.2 (lE h0 hz hb q)⟩
  .cases h
theorem kJ (hz:ZR Z z)(h0:Z.ints[0]?=some 0):∀ {a b ks:List EK},mQ z a b=some ks->ks.length=a.length/\ks.length=b.length/\∀ (i:Nat) (k:EK),ks[i]?=some k->(∀ (k1:EK),a[i]?=some k1->∀ v,KV Z k1 v->KV Z k v)/\∀ (k2:EK),b[i]?=some k2->∀ v,KV Z k2 v->KV Z k v
 |[],b,ks,h=>by
  cases b with
  |nil=>cases h;exact⟨rfl,rfl,fun i k h=>by simp at h⟩
  |cons=>cases h
 |x :: a,b,ks,h=>by
  cases b with
  |nil=>cases h
  |cons y b=>
   simp only[mQ] at h;split at h
   .rename_i k1 r h1 h2;cases h;obtain⟨l1,l2,l3⟩:=kJ hz h0 h2;refine⟨by simp[l1],by simp[l2],fun i k hk=>?_⟩;cases i with
    |zero=>
     simp at hk;subst hk;refine⟨fun k1 hk1 v hv=>?_,fun k1 hk1 v hv=>?_⟩;·simp at hk1;subst hk1;exact(Fg hz h0 h1).1 hv
     .simp at hk1;subst hk1;exact(Fg hz h0 h1).2 hv
    |succ i=>obtain⟨m1,m2⟩:=l3 i k (by simpa using hk);exact⟨fun k1 h v=>m1 k1 (by simpa using h) v,fun k1 h v=>m2 k1 (by simpa using h) v⟩
   .cases h
theorem vD (hz:ZR Z z)(h0:Z.ints[0]?=some 0){w:Nat}(hw:0<w):∀ {d:Nat} {ks ks':List EK} {l:List A} {m:Nat},chunks z w d ks l=some (ks',m)->ks.length=w->(∀ (i:Nat) (a:A),l[i]?=some a->∃ v,AV Z a v)->ks'.length=w/\l.length=m * w/\(∀ (i:Nat) (k:EK),ks[i]?=some k->∃ k',ks'[i]?=some k'/\∀ v,KV Z k v->KV Z k' v)/\∀ (i:Nat) (a:A),l[i]?=some a->∃ k',ks'[i % w]?=some k'/\∀ v,AV Z a v->KV Z k' v
 |0,_,_,_,_,h,_,_=>by cases h
 |d+1,ks,ks',[],m,h,hk,he=>by cases h;exact⟨hk,by simp,fun i k h=>⟨k,h,fun _ q=>q⟩,fun i a h=>by simp at h⟩
 |d+1,ks,ks',a :: l,m,h,hk,he=>by
  simp only[chunks] at h;split at h;case h_2=>cases h
  rename_i c hc;split at h;case h_2=>cases h
  rename_i ks1 hj;split at h;case h_2=>cases h
  rename_i r m' hr;cases h;obtain⟨c1,c2⟩:=iL _ _ _ hc;rw[iM] at hr;obtain⟨j1,j2,j3⟩:=vV hz h0 hj fun i a ha=>by
   rw[c1,cD] at ha;split at ha;·exact he i a ha
   .cases ha
  obtain⟨r1,r2,r3,r4⟩:=vD hz h0 hw hr (by rw[j1];exact hk) fun i a ha=>by rw[bJ] at ha;exact he _ a ha
  refine⟨r1,?_,fun i k hik=>?_,fun i a' ha=>?_⟩;·rw[bO] at r2;have e:Nat.succ m' * w=m' * w+w:=dU _ _;omega
  .obtain⟨k1,x1,x2,_⟩:=j3 i k hik;obtain⟨k2,y1,y2⟩:=r3 i k1 x1;exact⟨k2,y1,fun v q=>y2 v (x2 v q)⟩
  .by_cases q:i<w
   .have hlt:i<ks.length:=by omega
    obtain⟨k,hk'⟩:∃ k,ks[i]?=some k:=⟨_,ah hlt⟩;obtain⟨k1,x1,x2,x3⟩:=j3 i k hk';obtain⟨k2,y1,y2⟩:=r3 i k1 x1;rw[bS q];exact⟨k2,y1,fun v hv=>y2 v (x3 a' v (by rw[c1,cD,if_pos q];exact ha) hv)⟩
   .obtain⟨j,rfl⟩:=bI (show w<=i by omega);rw[Nat.add_mod_left];exact r4 j a' (by rw[bJ];exact ha)
theorem gp.plain {l:List A}:(∀ a,a∈l->Ae.plain a=true)->gp Z l l.length:=by
 induction l with
 |nil=>exact fun _=>.nil
 |cons x l ih=>intro hp;have:=gp.cons (eZ (Z:=Z) (hp x (by simp))) (ih fun a ha=>hp a (by simp[ha]));rw[bp] at this;exact this
theorem iD (hz:ZR Z z)(h0:Z.ints[0]?=some 0)(h:rowOf z w l=some (ks,N))(cr:CR Z l n pat tr):ks.length=w/\∃ cnt:Nat,Num Z N cnt/\tS Z ks cnt n pat tr:=by
 unfold rowOf at h;split at h
 .split at h;·rename_i q;rw[T.beq_true] at q;cases h;exact⟨q,cr.LX⟩
  .cases h
 .split at h
  .rename_i q;rw[T.beq_true] at q;split at h
   .rename_i ks' hj;cases h;obtain⟨cnt,a,b⟩:=(CR.fold (pre:=[]) (post:=[]) hz h0 cr hj).LX;obtain⟨p,w',l1,l2,l3⟩:=gp.split (l:=[]) (r:=[_]) cr.len;refine⟨?_,cnt,a,b⟩;cases l2 with
    |cons hw _=>
     cases hw with
     |one q=>exact absurd rfl (q _ _ _)
     |rw hN hfoc=>
      rw[<- q];have:∀ {ks ks':List EK} {c:List A},tV z ks c=some ks'->ks'.length=ks.length:=fun {ks}=>by
       induction ks with
       |nil=>intro ks' c h;cases c<;>cases h;rfl
       |cons k ks ih=>
        intro ks' c h;cases c with
        |nil=>cases h
        |cons a c=>
         simp only[tV] at h;split at h;·rename_i h2;cases h;simp[ih h2]
         .cases h
      exact this hj
   .cases h
  .cases h
 .split at h;case h_2=>cases h
  rename_i q;simp only[ae,bz] at q;have hw:0<w:=az q.2;split at h;case h_2=>cases h
  rename_i c hc;split at h;case h_2=>cases h
  rename_i ks0 hks;split at h;case h_2=>cases h
  rename_i ks1 m hch;cases h;have hlen:=cr.len.fn (gp.plain q.1);obtain⟨c1,c2⟩:=iL _ _ _ hc;obtain⟨o1,o2⟩:=fQ hks;have hcell:∀ i a,l[i]?=some a->∃ v,cell n pat tr i=some v/\AV Z a v:=fun i a ha=>by have hi:=(ai.1 ha).1;obtain⟨v,v1,v2⟩:=cr.get (show i<n by omega);obtain⟨a',b1,b2⟩:=CA.un q.1 v2;rw[ha] at b1;cases b1;exact⟨v,v1,b2⟩
  obtain⟨r1,r2,r3,r4⟩:=vD hz h0 hw hch (by rw[o1,c1,cX];omega) fun i a ha=>let ⟨v,_,b⟩:=hcell i a ha;⟨v,b⟩;refine⟨r1,m,eO h0 _,⟨by rw[r1,aY];omega,fun i hi=>?_⟩⟩;obtain⟨a,ha⟩:∃ a,l[i]?=some a:=⟨_,ah (by omega)⟩;obtain⟨v,v1,v2⟩:=hcell i a ha;obtain⟨k,k1,k2⟩:=r4 i a ha;exact⟨v,k,v1,by rw[r1];exact k1,k2 v v2⟩
end
section
variable {M:TH}{fr:FR}{Z:NV}{J:AS}{st:St}{K:A->AS->Bool}
theorem Mem.del (hM:Mem M fr Z J st){U s b:Nat}{ao:AO}{o:O}(hb:J.mem.get U=some (s,ao))(h1:Z.blks[U]?=some b)(h2:Z.objs[s]?=some [(b,o)]):Mem M fr Z (J.del U) ⟨st.env,st.h.set b none,st.defs⟩:=by
 obtain⟨b',hp',x1,x2,x3,x4⟩:=hM.hr.at' _ _ _ hb;rw[h1] at x1;cases x1;rw[h2] at x2;cases x2;have hbn:=x4 (b,o) (by simp);refine⟨⟨hM.vr.ni,hM.vr.ns,hM.vr.nb,hM.vr.no,hM.vr.z0,hM.vr.zr⟩,hM.sz,hM.er,⟨fun E s' a q=>?_,fun E s1 a1 E' s2 a2 q1 q2 hne=>?_,fun x hx hF=>?_,by rw[fB];exact hM.hr.le,hM.hr.gl⟩,hM.df.nd,fun d hd=>?_,fun d hd E s' a hp q e=>?_⟩
 .simp only[AS.del,T.eL] at q;split at q;·cases q
  .rename_i hne;obtain⟨c,hp,y1,y2,y3,y4⟩:=hM.hr.at' _ _ _ q;refine⟨c,hp,y1,y2,y3,fun p hp'=>?_⟩;obtain⟨z1,z2,z3⟩:=y4 p hp';have:p.1≠b:=hM.hr.sep _ _ _ _ _ _ q hb hne _ _ y2 h2 p hp' (b,o) (by simp);exact⟨by rw[fG,if_neg this];exact z1,by rw[fB];exact z2,z3⟩
 .simp only[AS.del,T.eL] at q1 q2;split at q1;·cases q1
  .split at q2;·cases q2
   .exact hM.hr.sep _ _ _ _ _ _ q1 q2 hne
 .rw[fG];split
  .rename_i e;subst e;rcases hbn.2.2 with q|q
   .exact absurd q hF
   .have:fr.n<=x:=q;omega
  .exact hM.hr.frame x hx hF
 .obtain⟨d1,d2,d3⟩:=hM.df.at' d hd;have:d≠b:=fun e=>hM.df.sep d hd _ _ _ _ hb h2 (b,o) (by simp) e.symm;exact⟨by rw[fG,if_neg this];exact d1,by rw[fB];exact d2,d3⟩
 .simp only[AS.del,T.eL] at q;split at q;·cases q
  .exact hM.df.sep d hd _ _ _ _ q e
theorem rM {n:LE}(h:newRow t ks n w J K=true)(hM:Mem M fr Z J st)(hk:ks.length=w)(hn:Num Z n m){cs:List V}(hl:cs.length=w * m)(hc:∀ (i:Nat) (c:V),cs[i]?=some c->∃ k,ks[i % w]?=some k/\KV Z k c):
  ∃ r h',grown st.h t w m cs=some (r,h')/\Eff M fr Z st r h' K:=by
 unfold newRow at h;split at h;case h_2=>cases h
 rename_i q;simp only[ae] at q;have q1:=eV hM.vr.zr hM.vr.z0 q.1 hn (eO hM.vr.z0 _);obtain⟨pat,tr,e1,e2⟩:=xw t cs;have row:∀ Z':NV,Z.le Z'->CR Z' [.rw ks n none] cs.length pat tr:=fun Z' hle=>by refine tS.cr ⟨by rw[hk,hl],fun i hi=>?_⟩ (hn.mono hle);have hi':=ah hi;obtain⟨k,k1,k2⟩:=hc i _ hi';exact⟨_,k,by rw[e2 i hi];exact hi',by rw[hk];exact k1,k2.mono hle⟩
 obtain⟨Z',hle,hb,hM'⟩:=hM.add (ao:=.cl false t [.rw ks n none]) (o:=mkO t cs) fun Z' hle=>by rw[e1];exact .cl (row Z' hle)
 refine⟨.slice st.h.next 0 m (.atl m w),st.h.add (mkO t cs),?_,Z',_,_,hle,hM',.sl hb ⟨0,(fun q=>absurd rfl q),rfl⟩ (hn.mono hle) (.al (hn.mono hle)),h⟩;unfold grown;rw[show(Nat.ble m 100000&&Nat.ble w 100000)=true by rw[aH (by omega),q.2];rfl]
theorem ng (hp:∀ a,a∈l->plain a=true)(cr:CR Z l n pat tr):n=l.length/\∀ (i:Nat) (a:A),l[i]?=some a->∃ v,cell n pat tr i=some v/\AV Z a v:=by have hlen:=cr.len.fn (gp.plain hp);refine⟨hlen,fun i a ha=>?_⟩;have hi:=(ai.1 ha).1;obtain⟨v,v1,v2⟩:=cr.get (show i<n by omega);obtain⟨a',b1,b2⟩:=CA.un hp v2;rw[ha] at b1;cases b1;exact⟨v,v1,b2⟩
theorem IK {h0:List EK}(h:LQ z w o m h0 l=some ks)(hz:ZR Z z)(h00:Z.ints[0]?=some 0)(cr:CR Z l n pat tr):0<w/\ks.length=w/\(0<m * w->o+m * w<=n)/\∀ i,i<m * w->∃ c k,cell n pat tr (o+i)=some c/\ks[i % w]?=some k/\KV Z k c:=by
 unfold LQ at h;split at h;case h_2=>cases h
 rename_i c q hc;simp only[ae,bz] at q;have hw:0<w:=az q.2;split at h;case h_2=>cases h
 rename_i ks0 hs;split at h;case h_2=>cases h
 rename_i ks1 m1 hch;cases h;obtain⟨hlen,hcell⟩:=ng q.1 cr;obtain⟨c1,c2⟩:=iL _ _ _ hc;rw[iM] at c1 c2;rw[bO] at c2;have c2:m * w<=l.length - o:=c2;have hk0:ks0.length=w:=by
  unfold Ks at hs;split at hs;·rename_i e;cases hs;rwa [T.beq_true] at e
  .split at hs;·rename_i e1;obtain⟨d1,d2⟩:=iL _ _ _ e1;obtain⟨o1,_⟩:=fQ hs;rw[o1,d1,cX];omega
   .cases hs
 have hcl:∀ i a,c[i]?=some a->l[o+i]?=some a:=fun i a ha=>by
  rw[c1,cD] at ha;split at ha;·rw[bJ] at ha;exact ha
  .cases ha
 obtain⟨r1,r2,r3,r4⟩:=vD hz h00 hw hch hk0 fun i a ha=>let ⟨v,_,b⟩:=hcell _ _ (hcl i a ha);⟨v,b⟩;have hlc:c.length=m * w:=by rw[c1,cX,bO];exact Nat.min_eq_left c2
 .refine⟨hw,r1,fun h=>by omega,fun i hi=>?_⟩;obtain⟨a,ha⟩:∃ a,c[i]?=some a:=⟨_,ah (by omega)⟩;obtain⟨v,v1,v2⟩:=hcell _ _ (hcl i a ha);obtain⟨k,k1,k2⟩:=r4 i a ha;exact⟨v,k,v1,k1,k2 v v2⟩
theorem Fh {hh:List EK}{n:LE}(h:OK y w hh J=some (ks,n))(hM:Mem M fr Z J st)(hy:AV Z y v):ks.length=w/\∃ (m:Nat) (cs:List V),Num Z n m/\elems st.h w v=some (m,cs)/\cs.length=w * m/\(∀ (i:Nat) (c:V),cs[i]?=some c->∃ k,ks[i % w]?=some k/\KV Z k c)/\((v=.nils/\m=0)\/∃ b o c,v=.slice b o m c):=by
 unfold OK at h;split at h;case h_4=>cases h
 case h_2=>
  rename_i U s n';split at h;case h_2=>cases h
  rename_i s' t te ks' B mh N hb;split at h;case h_2=>cases h
  rename_i q;simp only[ae,T.beq_true] at q;obtain⟨⟨⟨q1,q2⟩,q3⟩,q4⟩:=q;subst q1;cases h;obtain⟨b',bb,cnt,mm,pat,tr,L,g,x1,x2,hB,hm,hN,rv,nd,x3⟩:=hM.MD hb;have hcm:mm=cnt:=by have:=jB hM.vr.zr hM.vr.z0 q2 hm hN;omega
  have hg:g=none:=by
   have:=rv.hf;cases g with
   |none=>rfl
   |some _=>exact this.elim
  have head:∀ {u:V},HdV Z s u->∃ hp,hp∈L/\Own Z te ks bb u hp:=fun {u} hu=>by
   obtain⟨b1,e1,n1,pat1,tr1,L1,i,y1,y2⟩:=hu;rw[x2] at y1;cases y1;have hi:i<L.length:=by rw[rv.len,hcm];exact eT y2
   exact⟨L[i],dA hi,rv.own i _ _ (ah hi) y2 (by rw[hg];simp)⟩
  have hw:0<w:=az q4;cases hy with
  |re0 hd hn=>exact⟨q3,0,[],hn,rfl,rfl,fun i c hi=>by simp at hi,.inl ⟨rfl,rfl⟩⟩
  |re hd hn=>
   rename_i b o len cap;obtain⟨hp,hL,own⟩:=head hd;rcases own with⟨e,_⟩|⟨b2,len2,cap2,cnt2,nn,pat2,tr2,e1,e2,e3,e4,e5,e6⟩
   .cases e
   .cases e1;have hblk:st.h.tr.get b=some (.cells (some te) nn pat2 tr2):=by
     obtain⟨_,hp',y1,y2,_,y4⟩:=hM.hr.at' _ _ _ hb;rw[x2] at y2;cases y2;exact(y4 (b,.cells (some te) nn pat2 tr2) (aB _ (ct.2 ⟨hp,hL,by rw[e2];simp⟩))).1
    have hle:len<=cnt2:=by
     cases cap with
     |known c=>exact bF e6.1 e6.2
     |atl c es=>exact bF e6.2.1 e6.2.2
    have hml:len * w<=cnt2 * w:=bD _ hle;have hnn:=e3.len;rw[q3,aY] at hnn;obtain⟨cs,hcs⟩:=fj (n:=nn) (pat:=pat2) (tr:=tr2) (len * w) 0 fun j hj=>by obtain⟨c,_,c1,_⟩:=e3.at' (0+j) (by omega);rw[c1];rfl
    obtain⟨g1,g2⟩:=eP hcs;refine⟨q3,len,cs,hn,?_,by rw[g1,aY],fun i c hi=>?_,.inr ⟨_,_,_,rfl⟩⟩
    .have:eW st.h b 0 (Nat.mul len w)=some cs:=by simp only[eW,hblk];exact hcs
     simp only[elems,this]
    .have hlt:=(ai.1 hi).1;obtain⟨c',k,k1,k2,k3⟩:=e3.at' (0+i) (by omega);rw[g2 i c hi] at k1;cases k1;rw[q3,aI] at k2;exact⟨k,k2,k3⟩
 case h_3=>
  rename_i U w' N' n';cases hy with
  |su0 hn=>
   split at h;case h_2=>cases h
   rename_i s ro t l hb;obtain⟨b',nn,pat,tr,ob,x1,x2,x3,cr,x4⟩:=hM.block hb;split at h;case h_2=>cases h
   rename_i ks' N hrow;obtain⟨hk,cnt,hN,rv⟩:=iD hM.vr.zr hM.vr.z0 hrow cr;split at h;case h_2=>cases h
   cases h;exact⟨hk,0,[],hn,rfl,rfl,fun i c hi=>by simp at hi,.inl ⟨rfl,rfl⟩⟩
  |su hU hN0 hn ho hl hc=>
   rename_i b off m cnt0 mm cp;split at h;case h_2=>cases h
   rename_i s ro t l hb;obtain⟨b',nn,pat,tr,ob,x1,x2,x3,cr,x4⟩:=hM.block hb;rw[hU] at x1;cases x1;split at h;case h_2=>cases h
   rename_i ks' N hrow;obtain⟨hk,cnt,hN,rv⟩:=iD hM.vr.zr hM.vr.z0 hrow cr;split at h;case h_2=>cases h
   rename_i q;simp only[ae,T.beq_true] at q;have hw:0<w:=az q.1.1;have hww:=q.1.2;subst hww;cases h;have hcc:=jB hM.vr.zr hM.vr.z0 q.2 hN hN0;have hle:mm+m<=cnt:=by omega
   have hml:(mm+m) * w<=cnt * w:=bD _ hle;rw[bH] at hml;have hnn:=rv.len;rw[hk,aY] at hnn;obtain⟨cs,hcs⟩:=fj (n:=nn) (pat:=pat) (tr:=tr) (m * w) off fun j hj=>cr.all _ (by omega);obtain⟨g1,g2⟩:=eP hcs;refine⟨hk,m,cs,hn,?_,by rw[g1,aY],fun i c hi=>?_,.inr ⟨_,_,_,rfl⟩⟩
   .have:eW st.h b off (Nat.mul m w)=some cs:=by
     simp only[eW,x4];cases ro<;>(simp only at x3;rw[x3];exact hcs)
    simp only[elems,this]
   .have hlt:=(ai.1 hi).1;obtain⟨c',k,k1,k2,k3⟩:=rv.at' (off+i) (by omega);rw[g2 i c hi] at k1;cases k1;refine⟨k,?_,k3⟩;rw[hk,ho,bp,cK] at k2;exact k2
 rename_i U o n' cap;cases hy with
 |sl hU ho hn hc=>
  rename_i b off m cp;split at h;case h_2=>cases h
  rename_i s ro t l hb;obtain⟨b',nn,pat,tr,ob,x1,x2,x3,cr,x4⟩:=hM.block hb;rw[hU] at x1;cases x1;split at h;case h_2=>
   unfold TP at h;split at h;case h_2=>cases h
   rename_i mk q hmk;simp only[ae,T.beq_true] at q;split at h;case h_2=>cases h
   rename_i ks1 hpk;cases h;obtain⟨hw,k1,k2,k3⟩:=IK hpk hM.vr.zr hM.vr.z0 cr;have hm:m=mk:=by have:=eO hM.vr.z0 n.2;rw[show(0,n.2)=n from bQ q.1.symm rfl] at this;have:=this.fn hn;rw[hmk] at this;simp only[aN] at this;omega
   subst hm;have hoff:off=o.o:=by obtain⟨x,_,e⟩:=ho;rw[e,q.2];omega
   subst hoff;obtain⟨cs,hcs⟩:=fj (n:=nn) (pat:=pat) (tr:=tr) (m * w) o.o fun j hj=>by obtain⟨c,_,c1,_⟩:=k3 j hj;rw[c1];rfl
   obtain⟨g1,g2⟩:=eP hcs;refine⟨k1,m,cs,hn,?_,by rw[g1,aY],fun i c hi=>?_,.inr ⟨_,_,_,rfl⟩⟩
   .have:eW st.h b o.o (Nat.mul m w)=some cs:=by
     simp only[eW,x4];cases ro<;>(simp only at x3;rw[x3];exact hcs)
    simp only[elems,this]
   .have hlt:=(ai.1 hi).1;obtain⟨c',k,e1,e2,e3⟩:=k3 i (by omega);rw[g2 i c hi] at e1;cases e1;exact⟨k,e2,e3⟩
  rename_i ks' N hrow;obtain⟨hk,cnt,hN,rv⟩:=iD hM.vr.zr hM.vr.z0 hrow cr;split at h;case h_2=>cases h
  rename_i q;simp only[ae,bf,T.beq_true] at q;have hw:0<w:=az q.1.1.1;split at h;case h_2=>cases h
  rename_i q2;cases h;obtain⟨x0,y1,y2⟩:=ho;have hmod:o.o % w=0:=q.1.1.2;obtain⟨e,he,hoff⟩:∃ e:Nat,Num Z (jc o w o.o) e/\off=e * w:=by
   have hr:=dH o.o w;unfold jc;rcases q.1.2 with g|⟨g,_⟩
   .rw[g];refine⟨o.o / w,eO hM.vr.z0 _,?_⟩;rw[g] at y2;rw[aY (o.o / w)];omega
   .rw[show Nat.beq o.st 0=false from T.beq_false (by omega)];refine⟨x0+o.o / w,(y1 (by omega)).plus (Int.ofNat (Nat.div o.o w)),?_⟩;rw[g] at y2;rw[bH,aY (o.o / w)];omega
  have hle:e+m<=cnt:=by
   split at q2
   .rename_i g;rw[T.beq_true] at g;have e1:n.2=m:=by
     have:=eO hM.vr.z0 n.2;rw[show(0,n.2)=n from bQ g.symm rfl] at this;exact this.fn hn
    have:=eV hM.vr.zr hM.vr.z0 q2 (he.plus _) hN;omega
   .simp only[ae,isZ,T.beq_true,iT] at q2;have e1:(e:Int)=0:=he.fn (by have:=eO hM.vr.z0 0;rw[show((0:Nat),(0:Int))=jc o w o.o from bQ q2.1.1.symm q2.1.2.symm] at this;exact this);have:=eV hM.vr.zr hM.vr.z0 q2.2 hn hN;omega
  have hml:(e+m) * w<=cnt * w:=bD _ hle;rw[bH] at hml;have hnn:=rv.len;rw[hk,aY] at hnn;obtain⟨cs,hcs⟩:=fj (n:=nn) (pat:=pat) (tr:=tr) (m * w) off fun j hj=>cr.all _ (by omega);obtain⟨g1,g2⟩:=eP hcs;refine⟨hk,m,cs,hn,?_,by rw[g1,aY],fun i c hi=>?_,.inr ⟨_,_,_,rfl⟩⟩
  .have:eW st.h b off (Nat.mul m w)=some cs:=by
    simp only[eW,x4];cases ro<;>(simp only at x3;rw[x3];exact hcs)
   simp only[elems,this]
  .have hlt:=(ai.1 hi).1;obtain⟨c',k,k1,k2,k3⟩:=rv.at' (off+i) (by omega);rw[g2 i c hi] at k1;cases k1;refine⟨k,?_,k3⟩;rw[hk,hoff,bp,cK] at k2;exact k2
theorem BM {z:List V}(h:xz z=some ks):ks.length=z.length/\∀ (i:Nat) (c:V),z[i]?=some c->∃ k,ks[i]?=some k/\KV Z k c:=by
 obtain⟨a,b⟩:=fQ h;refine⟨a,fun i c hc=>?_⟩;have hi:=(ai.1 hc).1;have hk:=ah (l:=ks) (i:=i) (by omega);have:=b i c _ hc hk;split at this;·refine⟨_,hk,?_⟩;rw[<- bP this];exact .cst _
 .cases this
theorem vE {z:List V}:∀ {n i:Nat} {c:V},(rep n z)[i]?=some c->z[i % z.length]?=some c
 |0,i,c,h=>by simp[rep] at h
 |n+1,i,c,h=>by
  simp only[rep] at h;rw[aG] at h;split at h;·rename_i q;rw[bS q];exact h
  .rename_i q;have:=vE h;rw[<- this];have e:i=(i - z.length)+z.length:=by omega
   conv=>lhs;rw[e,Nat.add_mod_right]
theorem vF {z:List V}:∀ {n:Nat},(rep n z).length=z.length * n
 |0=>by simp[rep]
 |n+1=>by simp only[rep,bt,vF];rw[Nat.mul_succ];omega
theorem LY {zs:Bool}{hh:List EK}{n:LE}(h:Ro zs te y hh J=some (ks,n))(hM:Mem M fr Z J st)(hy:AV Z y v):ks.length=te.size/\∃ (m:Nat) (cs:List V),Num Z n m/\news te zs st.h v=some (m,cs)/\cs.length=te.size * m/\(∀ (i:Nat) (c:V),cs[i]?=some c->∃ k,ks[i % te.size]?=some k/\KV Z k c):=by
 unfold Ro at h;split at h;·obtain⟨a,m,cs,b,c,d,e,_⟩:=Fh h hM hy;exact⟨a,m,cs,b,by simp only[news];exact c,d,e⟩
 .split at h;case h_2=>cases h
  rename_i n' z hi hz;split at h;case h_2=>cases h
  rename_i ks' hks;split at h;case h_2=>cases h
  rename_i q;simp only[ae,T.beq_true] at q;cases h;obtain⟨a1,a2⟩:=BM (Z:=Z) hks;obtain⟨x,rfl,hx⟩:=kQ hM.vr.z0 hi hy;have l1:=eV hM.vr.zr hM.vr.z0 q.1.1 (eO hM.vr.z0 _) hx;have l2:=eV hM.vr.zr hM.vr.z0 q.1.2 hx (eO hM.vr.z0 _);obtain⟨m,rfl⟩:=cj l1;refine⟨by rw[a1,q.2],m,rep m z,hx,?_,by rw[vF,q.2],fun i c hc=>?_⟩
  .show(match (V.int .i64 (Int.ofNat m)),lW te with
    |.int .i64 (.ofNat n),some z=>match Nat.ble n 100000 with
     |true=>some (n,rep n z)
     |false=>none
    |_,_=>none)=_
   rw[hz];simp only;rw[show Nat.ble m 100000=true from aH (by omega)]
  .rw[<- q.2];exact a2 _ _ (vE hc)
theorem LZ {ks0:List EK}(h:Rp z w l ks0=some (ks,N))(hz:ZR Z z)(h0:Z.ints[0]?=some 0)(hk0:ks0.length=w)(cr:CR Z l n pat tr):ks.length=w/\∃ cnt:Nat,Num Z N cnt/\tS Z ks cnt n pat tr:=by
 unfold Rp at h;split at h;·cases h;have hn:=cr.len.fn gp.nil;subst hn;exact⟨hk0,0,eO h0 0,rfl,fun i hi=>by omega⟩
 .exact iD hz h0 h cr
theorem lF {off:Nat}{i:Nat}(hi:i<n):cell n pat (qL off vs tr) i=if off<=i/\i<off+vs.length then vs[i - off]? else cell n pat tr i:=by
 split;·rename_i q;have hv:=ah (l:=vs) (i:=i - off) (by omega);rw[hv];exact gC hi (by rw[mb,if_pos q];exact hv)
 .rename_i q;exact gX (by rw[mb,if_neg q])
theorem inPlace {s b:Nat}{len:Nat}(hM:Mem M fr Z J st)(hb:J.mem.get U=some (s,.cl false t l))(hU:Z.blks[U]?=some b)(ho:Z.objs[s]?=some [(b,.cells t n pat tr)])(hh:st.h.tr.get b=some (.cells t n pat tr))(hw:ks.length=w)(hlen:n=w * cnt)(hN:Num Z N cnt)
  (hold:∀ i,i<n->∃ c k,cell n pat tr i=some c/\ks[i % w]?=some k/\KV Z k c){cs:List V}(hl:cs.length=w * m)(hc:∀ (i:Nat) (c:V),cs[i]?=some c->∃ k,ks[i % w]?=some k/\KV Z k c)(hle:len+m<=cnt):
  ∃ h',putCells st.h b (Nat.add 0 (Nat.mul len w)) cs=some h'/\∃ Z',Z.le Z'/\Mem M fr Z' (J.gG U (.cl false t [.rw ks N none])) ⟨st.env,h',st.defs⟩:=by
 have hml:(len+m) * w<=cnt * w:=bD _ hle;rw[bH] at hml;have e1:cnt * w=w * cnt:=aY _ _;have e2:m * w=w * m:=aY _ _;have e3:Nat.add 0 (Nat.mul len w)=len * w:=aI _;refine⟨st.h.set b (some (.cells t n pat (qL (len * w) cs tr))),?_,?_⟩;·simp only[putCells,hh,e3];rw[show Nat.ble (Nat.add (len * w) cs.length) n=true from aH (by show len * w+cs.length<=n;omega)]
 .refine hM.gG hb hU ho (.cl (tS.cr ⟨by rw[hw];exact hlen,fun i hi=>?_⟩ hN));rw[lF hi];split
  .rename_i q;have hv:=ah (l:=cs) (i:=i - len * w) (by omega);obtain⟨k,k1,k2⟩:=hc _ _ hv;refine⟨_,k,hv,?_,k2⟩;rw[hw];have:i % w=(i - len * w) % w:=by
    have e4:i=(i - len * w)+len * w:=by omega
    rw[e4,cK];congr 1;omega
   rw[this];exact k1
  .rw[hw];exact hold i hi
theorem RRV.more {te:TypeId}{B:Nat}{mm:Nat}{L:List (List (Nat×O))}{g:Option Nat}(rv:RRV Z te ks B none cnt mm pat tr L g){cnt':Nat}{pat':List V}{tr':T V}{a:A}{x:V}(he:Num Z e (mm:Int))(hc:∀ i,i<mm->cell cnt' pat' tr' i=cell cnt pat tr i)(hx:cell cnt' pat' tr' mm=some x)(ha:AV Z a x)(hlt:mm<cnt')(all:∀ i,i<cnt'->∃ c,cell cnt' pat' tr' i=some c):
  RRV Z te ks B (some (e,a)) cnt' (mm+1) pat' tr' (L++[[]]) (some mm):=by
 have hg:g=none:=by
  have:=rv.hf;cases g with
  |none=>rfl
  |some _=>exact this.elim
 subst hg;refine⟨hlt,all,by simp[rv.len],⟨he,by omega⟩,fun i c hp h1 h2 h3=>?_,fun i c hp e' a' h1 h2 h3 h4=>?_⟩
 .have ei:i≠mm:=fun e=>h3 (by rw[e]);have hi:i<mm:=by
   have:=(ai.1 h1).1;simp[rv.len] at this;omega
  rw[hc i hi] at h2;rw[aG,if_pos (by rw[rv.len];exact hi)] at h1;exact rv.own i c hp h1 h2 (fun q=>nomatch q)
 .cases h4;cases h3;rw[hx] at h2;cases h2;rw[aG,if_neg (by rw[rv.len];omega),rv.len,cJ] at h1;simp at h1;exact⟨h1,ha⟩
theorem IL (h:LR elem te x y J K=true)(hM:Mem M fr Z J st)(hx:AV Z x v)(hy:AV Z y u):∃ n l r h',elems st.h te.size u=some (n,l)/\fO elem te st.h v n l=some (r,h')/\Eff M fr Z st r h' K:=by
 unfold LR at h;split at h;case h_2=>cases h
 rename_i U2 o2 n2 c2;cases hy with
 |sl hU2 ho2 hn2 hc2=>
 rename_i b2 off2 len2 cap2;split at h;case h_3=>cases h
 .
  rename_i s2 t ti ks B m0 n foc hb2 q;simp only[ae,T.beq_true] at q;have hoff:off2=0:=by obtain⟨w,_,e⟩:=ho2;rw[e,q.1.1,q.1.2];omega
  subst hoff;split at h;case h_2=>cases h
  rename_i q2;simp only[ae,T.beq_true] at q2;obtain⟨⟨⟨⟨q3,q4⟩,q5⟩,q6⟩,q7⟩:=q2;subst q6;obtain⟨b',bb,cnt,mm,pat,tr,L,g,x1,x2,hB,hm,hn,rv,nd,x3⟩:=hM.MD hb2;rw[hU2] at x1;cases x1;have k1:=eV hM.vr.zr hM.vr.z0 q3 hn2 hn;have k2:=eV hM.vr.zr hM.vr.z0 q4 hn2 (eO hM.vr.z0 _);have k3:=eV hM.vr.zr hM.vr.z0 q5 (eO hM.vr.z0 _) hn2;obtain⟨cs,hcs⟩:=fj (n:=cnt) (pat:=pat) (tr:=tr) (len2 * te.size) 0 fun j hj=>by rw[q.2,eA] at hj;obtain⟨c,hc⟩:=rv.all (0+j) (by omega);rw[hc];rfl
  obtain⟨g1,g2⟩:=eP hcs;have hl:cs.length=len2:=by rw[g1,q.2];omega
  have hel:elems st.h te.size (.slice b2 0 len2 cap2)=some (len2,cs):=by
   have:eW st.h b2 0 (Nat.mul len2 te.size)=some cs:=by simp only[eW,x3];exact hcs
   simp only[elems,this]
  obtain⟨pat',tr',e1,e2⟩:=xw (some t) cs;have hgr:grown st.h (some t) te.size len2 cs=some (.slice st.h.next 0 len2 (.atl len2 te.size),st.h.add (mkO (some t) cs)):=by unfold grown;rw[show(Nat.ble len2 100000&&Nat.ble te.size 100000)=true by rw[aH (by omega),q.2];rfl]
  have heff:Eff M fr Z st (.slice st.h.next 0 len2 (.atl len2 te.size)) (st.h.add (mkO (some t) cs)) K:=by
   rw[q.2];split at h
   .rename_i hqe;have hcm:mm=cnt:=by have:=jB hM.vr.zr hM.vr.z0 hqe hm hn;omega
    have hg:g=none:=by
     have:=rv.hf;cases g with
     |none=>rfl
     |some _=>exact this.elim
    have row:∀ Z':NV,Z.le Z'->CR Z' [.rw [.re U2 s2 B] n2 none] cs.length pat' tr':=fun Z' hle=>by
     refine tS.cr (cnt:=len2) ⟨by simp[hl],fun i hi=>?_⟩ (hn2.mono hle);have hi':=ah hi;have hc:=g2 i _ hi';rw[aI] at hc;refine⟨_,.re U2 s2 B,by rw[e2 i hi];exact hi',by simp[dB],?_⟩;have hi2:i<L.length:=by rw[rv.len,hcm];exact eT hc
     have own:=rv.own i _ _ (ah hi2) hc (by rw[hg];simp);have hd:HdV Z s2 cs[i]:=⟨_,_,_,_,_,_,i,x2,hc⟩;rcases own with⟨e,_⟩|⟨b3,len3,cap3,cnt3,nn3,pat3,tr3,f1,_,_,f4,_⟩
     .rw[e] at hd ⊢;exact .re0 (hd.mono hle) (hB.mono hle)
     .rw[f1] at hd ⊢;exact .re (hd.mono hle) (hB.mono hle) f4
    obtain⟨Z',hle,hb,hM'⟩:=hM.add (ao:=.cl false (some t) [.rw [.re U2 s2 B] n2 none]) (o:=mkO (some t) cs) fun Z' hle=>by rw[e1];exact .cl (row Z' hle)
    exact⟨Z',_,_,hle,hM',.sl hb ⟨0,(fun q=>absurd rfl q),rfl⟩ (hn2.mono hle) (.al (hn2.mono hle)),h⟩
   .obtain⟨Z',hle,hb,hM'⟩:=hM.add (ao:=.rr t ti ks B (0,0) n2 none) (o:=mkO (some t) cs) fun Z' hle=>by
     rw[e1];exact .rr (L:=[]) (mm:=0) (g:=none) (hB.mono hle) (eO (hle.i hM.vr.z0) 0) (by rw[hl];exact hn2.mono hle) ⟨cW _,fun i hi=>⟨_,by rw[e2 i hi];exact ah hi⟩,rfl,trivial,fun i c hp h1=>by simp at h1,fun i c hp e a h1=>by simp at h1⟩ (by simp)
    exact⟨Z',_,_,hle,hM',.sl hb ⟨0,(fun q=>absurd rfl q),rfl⟩ (hn2.mono hle) (.al (hn2.mono hle)),h⟩
  refine⟨len2,cs,_,_,hel,?_,heff⟩;split at q7;·cases hx;simp only[fO,T.beq_false (show len2≠0 by omega)];exact hgr
  .rename_i Ux ox mx cx;simp only[ae,isZ,T.beq_true,iT] at q7;obtain⟨⟨⟨q8,q9⟩,q10,q11⟩,q12⟩:=q7;cases hx with
   |sl hUx hox hmx hcx=>
    rename_i bx offx lenx capx;cases hcx with
    |@kn _ C hcx=>
     have z1:lenx=0:=by have:=eO hM.vr.z0 mx.2;rw[show(0,mx.2)=mx from bQ q8.symm rfl] at this;have:=this.fn hmx;omega
     have z2:C=0:=by have:=eO hM.vr.z0 cx.2;rw[show(0,cx.2)=cx from bQ q10.symm rfl] at this;have:=this.fn hcx;omega
     subst z1 z2;split at q12;case h_2=>cases q12
     rename_i sx rox tx lx hbx;obtain⟨bx',nx,patx,trx,ox',w1,w2,w3,w4,w5⟩:=hM.block hbx;rw[hUx] at w1;cases w1;have hg0:eW st.h bx offx (Nat.mul 0 te.size)=some []:=by rw[show Nat.mul 0 te.size=0 from Nat.zero_mul _];simp only[eW,w5];cases rox<;>(simp only at w3;rw[w3];rfl)
     simp only[fO];rw[show Nat.ble (Nat.add 0 len2) 0=false from by
      cases e:Nat.ble (Nat.add 0 len2) 0 with
      |false=>rfl
      |true=>have:=az e;simp at this;omega]
     simp only[hg0,cN];rw[show Nat.add 0 len2=len2 from aI _];exact hgr
  .cases q7
 .
  rename_i s2 ro2 t2 a hb2 q;simp only[ae,T.beq_true] at q;have hoff:off2=0:=by obtain⟨w,_,e⟩:=ho2;rw[e,q.1.1,q.1.2];omega
  subst hoff;split at h;case h_2=>cases h
  rename_i U o n c;cases hx with
  |sl hU ho hn hc=>
  rename_i b off len cap;split at h;case h_2=>cases h
  rename_i s t ti ks B m N hb q2;simp only[ae,T.beq_true] at q2;have hoff:off=0:=by obtain⟨w,_,e⟩:=ho;rw[e,q2.1.1.1,q2.1.1.2];omega
  subst hoff;split at h;case h_2=>cases h
  rename_i q3;simp only[ae,T.beq_true] at q3;obtain⟨q3,q4⟩:=q3;subst q4;obtain⟨b',bb,cnt,mm,pat,tr,L,g,x1,x2,hB,hm,hN,rv,nd,x3⟩:=hM.MD hb;rw[hU] at x1;cases x1;have hlm:len=mm:=by have:=jB hM.vr.zr hM.vr.z0 q3 hn hm;omega
  subst hlm;have hl1:len2=1:=by have e:=q2.1.2;simp only[isZ,ae,T.beq_true,iT] at e;have:=eO hM.vr.z0 n2.2;rw[show(0,n2.2)=n2 from bQ (by have:=e.1;simpa [plus] using this.symm) rfl] at this;have:=this.fn hn2;have e2:Int.add n2.2 (-1)=0:=e.2;have e2:n2.2+(-1)=0:=e2;omega
  subst hl1;obtain⟨b2',nn,pat2,tr2,ob,w1,w2,w3,cr,w4⟩:=hM.block hb2;rw[hU2] at w1;cases w1;have hnn:nn=1:=cr.len.fn (gp.cons (eZ (Z:=Z) q2.2) .nil);subst hnn;obtain⟨xv,hxv,hca⟩:=cr.get (i:=0) (by omega);have hax:AV Z a xv:=by obtain⟨a',a1,a2⟩:=CA.un (fun a' h=>by rw[aj.1 h];exact q2.2) hca;simp at a1;subst a1;exact a2
  have hgat:fC 1 pat2 tr2 0 1=some [xv]:=by simp only[fC,hxv]
  have hel:elems st.h te.size (.slice b2 0 1 cap2)=some (1,[xv]):=by
   have:eW st.h b2 0 (Nat.mul 1 te.size)=some [xv]:=by rw[q.2];simp only[eW,w4];cases ro2<;>(simp only at w3;rw[w3];exact hgat)
   simp only[elems,this]
  obtain⟨old,hold⟩:=fj (n:=cnt) (pat:=pat) (tr:=tr) (len * te.size) 0 fun j hj=>by rw[q.2,eA] at hj;have:=rv.le;obtain⟨c,hc⟩:=rv.all (0+j) (by omega);rw[hc];rfl
  obtain⟨g1,g2⟩:=eP hold;have hol:old.length=len:=by rw[g1,q.2];omega
  have hg:eW st.h b 0 (Nat.mul len te.size)=some old:=by simp only[eW,x3];exact hold
  have hbr:∀ p,p∈L.flatten->p.1≠b:=fun p hp e=>by simp only[aS,bC] at nd;exact nd.1 (aJ.2 ⟨p,hp,e⟩)
  have hfl:(L++[[]]).flatten=L.flatten:=by simp
  obtain⟨_,_,y1,y2,_,y4⟩:=hM.hr.at' _ _ _ hb;rw[hU] at y1;cases y1;rw[x2] at y2;cases y2;have big:∀ {Z0:NV} {J0:AS} {h0:H},Z.le Z0->Mem M fr Z0 J0 st->J0.mem.get U=J.mem.get U->J0.nb=J.nb->st.h.next=h0.next->(∀ x,x≠b->h0.tr.get x=st.h.tr.get x)->leQ J0.z (plus n 1) (0,100000)=true->K (.sl J0.nb (uv 0) (plus n 1) (.al (plus n 1) 1)) ((J0.del U).add (.rr t ti ks B (plus n 1) (plus n 1) (some (n,a))))=true ->
    ∃ r h',grown h0 (some t) te.size (Nat.add len 1) (old++[xv])=some (r,h')/\Eff M fr Z st r h' K:=fun {Z0 J0 h0} hle0 hM0 hmem hnb hnx hoth hk hK=>by
   have k2:=eV hM0.vr.zr hM0.vr.z0 hk ((hn.mono hle0).plus 1) (eO hM0.vr.z0 _);obtain⟨pat',tr',e1,e2⟩:=xw (some t) (old++[xv]);have hlen:(old++[xv]).length=len+1:=by simp[hol]
   have hnn:Num Z (plus n 1) ((len+1:Nat):Int):=by exact_mod_cast hn.plus 1
   obtain⟨Z',hle,hbl,hM'⟩:=(hM0.swap (h':=h0.add (mkO (some t) (old++[xv]))) (hp':=(h0.next,mkO (some t) (old++[xv])) :: L.flatten) (ao':=.rr t ti ks B (plus n 1) (plus n 1) (some (n,a))) (by rw[hmem];exact hb) (hle0.b hU) (hle0.o x2) (by rw[gB];omega) (fun x hx hx2=>by
    rw[iE,if_neg (by omega)];exact hoth x (fun e=>hx2 (by rw[e];simp))) (fun p hp=>by
    rcases aq.1 hp with rfl|hp;·exact⟨by rw[iE,if_pos rfl],by rw[gB];exact cF _,.inr (by rw[hnx];exact aF _)⟩
    .obtain⟨z1,z2,z3⟩:=y4 p (aB _ hp);refine⟨?_,by rw[gB];omega,.inl ?_⟩;·rw[iE,if_neg (by omega),hoth _ (hbr p hp)];exact z1
     .exact aJ.2 ⟨p,aB _ hp,rfl⟩)).2 h0.next (fun Z' hle' hb'=>by
    rw[e1];have hlZ:=hle0.trans hle';have:=AOR.rr (M:=M) (t:=t) (m:=plus n 1) (n:=plus n 1) (b:=h0.next) (hB.mono hlZ) (hnn.mono hlZ) (by rw[hlen];exact hnn.mono hlZ) ((rv.mono hlZ).more (cnt':=(old++[xv]).length) (pat':=pat') (tr':=tr') (x:=xv) (hn.mono hlZ) (fun i hi=>by rw[e2 i (by omega),aG,if_pos (by omega)];have h3:=ah (l:=old) (i:=i) (by omega);rw[h3];have:=g2 i _ h3;rw[aI] at this;exact this.symm) (by rw[e2 _ (by omega),aG,if_neg (by omega),hol,cJ];rfl) (hax.mono hlZ) (by omega) (fun i hi=>⟨_,by rw[e2 i hi];exact ah hi⟩)) (by rw[hfl];simp only[aS,bC] at nd ⊢;refine⟨fun hm=>?_,nd.2⟩;obtain⟨p,p1,p2⟩:=aJ.1 hm;have:=(y4 p (aB _ p1)).2.1;omega);rw[hfl] at this;exact this)
   refine⟨.slice h0.next 0 (Nat.add len 1) (.atl (Nat.add len 1) te.size),_,?_,Z',_,_,hle0.trans hle,hM',?_,hK⟩;·unfold grown;rw[show(Nat.ble (Nat.add len 1) 100000&&Nat.ble te.size 100000)=true by rw[aH (by show len+1<=_;omega),q.2];rfl]
   .rw[q.2];have hlZ:=hle0.trans hle;exact .sl hbl ⟨0,(fun q=>absurd rfl q),rfl⟩ (hnn.mono hlZ) (.al (hnn.mono hlZ))
  have small:∀ {Z0:NV} {J0:AS} {cap':Cap},Z.le Z0->Mem M fr Z0 J0 st->J0.mem.get U=J.mem.get U->xj Z0 c cap'->leQ J0.z (plus n 1) N=true->K (.sl U o (plus n 1) c) (J0.gG U (.rr t ti ks B (plus m 1) N (some (n,a))))=true ->
    ∃ h',putCells st.h b (Nat.add 0 (Nat.mul len te.size)) [xv]=some h'/\Eff M fr Z st (.slice b 0 (Nat.add len 1) cap') h' K:=fun {Z0 J0 cap'} hle0 hM0 hmem hcap hk hK=>by
   have k2:=eV hM0.vr.zr hM0.vr.z0 hk ((hn.mono hle0).plus 1) (hN.mono hle0);have hcnt:len+1<=cnt:=by omega
   have e3:Nat.add 0 (Nat.mul len te.size)=len:=by rw[q.2];show 0+len * 1=len;omega
   have hnn:Num Z (plus n 1) ((len+1:Nat):Int):=by exact_mod_cast hn.plus 1
   have hmm:Num Z (plus m 1) ((len+1:Nat):Int):=by exact_mod_cast hm.plus 1
   have hrr:=AOR.rr (M:=M) (t:=t) (b:=b) (hB.mono hle0) (hmm.mono hle0) (hN.mono hle0) ((rv.mono hle0).more (cnt':=cnt) (pat':=pat) (tr':=qL len [xv] tr) (x:=xv) (a:=a) (hn.mono hle0) (fun i hi=>by
    rw[lF (by omega),if_neg (by omega)]) (by
    rw[lF (by omega),if_pos ⟨aF _,by simp⟩,cJ];rfl) (hax.mono hle0) (by omega) (fun i hi=>by
    rw[lF hi];split;·rename_i e;exact⟨_,ah (by omega)⟩
    .exact rv.all i hi)) (by rw[hfl];simpa only[aS] using nd)
   rw[hfl] at hrr;obtain⟨Z',hle,hM'⟩:=hM0.IQ (o:=.cells (some t) cnt pat tr) (by rw[hmem];exact hb) (hle0.b hU) (hle0.o x2) hbr hrr;refine⟨_,?_,Z',_,_,hle0.trans hle,hM',(AV.sl (hle0.b hU) (ho.mono hle0) (hnn.mono hle0) hcap).mono hle,hK⟩;simp only[putCells,x3,e3];rw[show Nat.ble (Nat.add len [xv].length) cnt=true from aH (by simpa using hcnt)]
  cases hc with
  |@kn ce C hc=>
   obtain⟨J1,u1,k1⟩:=iu h hM.vr (.lt hc (hn.plus 1));have hM1:=hM.up u1;have hm1:J1.mem.get U=J.mem.get U:=by rw[u1.same.mem]
   by_cases qq:len+1<=C
   .have:¬ ((C:Int)<(len:Int)+1):=by omega
    simp only[this,decide_false] at k1;split at k1;case h_2=>cases k1
    rename_i q5;simp only[ae] at q5;obtain⟨h',p1,p2⟩:=small u1.le hM1 hm1 (.kn (hc.mono u1.le)) q5.1 k1;refine⟨1,[xv],_,_,hel,?_,p2⟩;simp only[fO];rw[show Nat.ble (Nat.add len 1) C=true from aH qq];simp only[p1]
   .have:((C:Int)<(len:Int)+1):=by omega
    simp only[this,decide_true] at k1;split at k1;case h_2=>cases k1
    rename_i q5;obtain⟨r,h',p1,p2⟩:=big (h0:=st.h) u1.le hM1 hm1 u1.same.nb rfl (fun x _=>rfl) (by simpa using q5) k1;refine⟨1,[xv],_,_,hel,?_,p2⟩;simp only[fO];rw[show Nat.ble (Nat.add len 1) C=false from by
     cases e:Nat.ble (Nat.add len 1) C with
     |false=>rfl
     |true=>exact absurd (az e) qq]
    simp only[hg];exact p1
  |@al ce C es hc=>
   obtain⟨J1,u1,k1⟩:=iu h hM.vr (.lt hc (hn.plus 1));have hM1:=hM.up u1;have hm1:J1.mem.get U=J.mem.get U:=by rw[u1.same.mem]
   by_cases qq:len+1<=C
   .have:¬ ((C:Int)<(len:Int)+1):=by omega
    simp only[this,decide_false] at k1;split at k1;case h_2=>cases k1
    rename_i q5;simp only[ae,T.beq_true] at q5;obtain⟨h',p1,p2⟩:=small u1.le hM1 hm1 (.al (hc.mono u1.le)) q5.1 k1;refine⟨1,[xv],_,_,hel,?_,p2⟩;simp only[fO];rw[show Nat.beq te.size es=true from(T.beq_true).2 (by rw[q.2,q5.2]),show Nat.ble (Nat.add len 1) C=true from aH qq];simp only[p1]
   .have:((C:Int)<(len:Int)+1):=by omega
    simp only[this,decide_true] at k1;split at k1;case h_2=>cases k1
    rename_i q5;simp only[ae,T.beq_true] at q5;obtain⟨r,h',p1,p2⟩:=big (h0:=st.h.set b none) u1.le hM1 hm1 u1.same.nb (fB _ _ _).symm (fun x hx=>by rw[fG,if_neg hx]) q5.1 k1;refine⟨1,[xv],_,_,hel,?_,p2⟩;simp only[fO];rw[show Nat.beq te.size es=true from(T.beq_true).2 (by rw[q.2,q5.2]),show Nat.ble (Nat.add len 1) C=false from by
     cases e:Nat.ble (Nat.add len 1) C with
     |false=>rfl
     |true=>exact absurd (az e) qq]
    simp only[x3,hg];have:oI 0 (some t) t=some t:=by unfold oI Ba;simp only[(T.beq_true).2 rfl]
    rw[this];exact p1
theorem CA.ofP:(∀ a,a∈l->plain a=true)->∀ {g:Nat} {a:A} {c:V},l[g]?=some a->AV Z a c->CA Z l g c:=by
 induction l with
 |nil=>intro _ g a c h;simp at h
 |cons x l ih=>
  intro hp g a c h ha;cases g with
  |zero=>simp at h;subst h;exact .here (hp _ (by simp)) ha
  |succ g=>have:=CA.skip (eZ (Z:=Z) (hp x (by simp))) (ih (fun a h=>hp a (by simp[h])) (by simpa using h) ha);rw[bp] at this;exact this
def nh (Z:NV)(l:List A)(vs:List V):Prop:=l.length=vs.length/\(∀ a,a∈l->plain a=true)/\∀ (i:Nat) (a:A) (v:V),l[i]?=some a->vs[i]?=some v->AV Z a v
theorem nh.mono {Z Z':NV}(h:Z.le Z'){l:List A}{vs:List V}(k:nh Z l vs):nh Z' l vs:=⟨k.1,k.2.1,fun i a v x y=>(k.2.2 i a v x y).mono h⟩
theorem nh.app {r:List A}{ws:List V}(h:nh Z l vs)(k:nh Z r ws):nh Z (l++r) (vs++ws):=by
 refine⟨by simp[h.1,k.1],fun a ha=>(aK.1 ha).elim (h.2.1 a) (k.2.1 a),fun i a v x y=>?_⟩;rw[aG] at x y;rw[h.1] at x;split at x;·rename_i q;rw[if_pos q] at y;exact h.2.2 i a v x y
 .rename_i q;rw[if_neg q] at y;exact k.2.2 _ a v x y
theorem nh.cr (h:nh Z l vs)(hc:∀ i,i<vs.length->cell vs.length pat tr i=vs[i]?):CR Z l vs.length pat tr:=
 CR.vA (by rw[<- h.1];exact gp.plain h.2.1) hc fun i v hv=>by have hi:=(ai.1 hv).1;have ha:=ah (l:=l) (i:=i) (by rw[h.1];exact hi);exact CA.ofP h.2.1 ha (h.2.2 i _ v ha hv)
theorem ux (hp:∀ a,a∈l->plain a=true)(cr:CR Z l n pat tr){k:Nat}{c:List A}(hc:takeN k (mM o l)=some c):∃ vs,nh Z c vs/\vs.length=k/\fC n pat tr o k=some vs:=by
 obtain⟨hlen,hcell⟩:=ng hp cr;obtain⟨c1,c2⟩:=iL _ _ _ hc;rw[iM] at c1 c2;rw[bO] at c2;obtain⟨vs,hvs⟩:=fj (n:=n) (pat:=pat) (tr:=tr) k o fun j hj=>by obtain⟨v,v1,_⟩:=hcell (o+j) _ (ah (by omega));rw[v1];rfl
 obtain⟨g1,g2⟩:=eP hvs;refine⟨vs,⟨by rw[c1,cX,bO,g1];omega,fun a ha=>hp a (by rw[c1] at ha;exact List.mem_of_mem_drop (List.mem_of_mem_take ha)),fun i a v x y=>?_⟩,g1,hvs⟩;rw[c1,cD] at x;split at x;·rw[bJ] at x;obtain⟨v',v1,v2⟩:=hcell _ _ x;rw[g2 i v y] at v1;cases v1;exact v2
 .cases x
theorem xB {ks:List EK}:∀ {n:Nat} {J:AS} {K:List A->AS->Bool},E6 ks n J K=true->∀ {Z:NV},VR Z J->∀ {cs:List V},cs.length=n * ks.length->(∀ (i:Nat) (c:V),cs[i]?=some c->∃ k,ks[i % ks.length]?=some k/\KV Z k c)->∃ Z' J' l,Up Z J Z' J'/\nh Z' l cs/\K l J'=true
 |0,J,K,h,Z,hv,cs,hl,_=>⟨Z,J,[],.refl hv,⟨by simp[hl],(fun a h=>nomatch h),fun i a v h=>by simp at h⟩,h⟩
 |n+1,J,K,h,Z,hv,cs,hl,hk=>by
  rw[dU] at hl;obtain⟨Z1,J1,as,u1,l1,a1,k1⟩:=jo h hv (cs:=cs.take ks.length) (by rw[cX];omega) fun i k c hi hc=>by
   rw[cD] at hc;split at hc;·rename_i q;obtain⟨k',e,hk'⟩:=hk i c hc;rw[bS q,hi] at e;cases e;exact hk'
   .cases hc
  obtain⟨Z2,J2,l,u2,c2,k2⟩:=xB (n:=n) k1 u1.vr (cs:=cs.drop ks.length) (by rw[bO];omega) fun i c hc=>by rw[bJ] at hc;obtain⟨k',e,hk'⟩:=hk _ c hc;rw[Nat.add_mod_left] at e;exact⟨k',e,hk'.mono u1.le⟩
  have c1:nh Z1 as (cs.take ks.length):=by
   refine⟨by rw[l1,cX];omega,fun a ha=>?_,fun i a v x y=>(a1 i a v x y).2⟩;obtain⟨i,hi,rfl⟩:=List.getElem_of_mem ha;have hi':i<(cs.take ks.length).length:=by rw[cX];omega
   exact(a1 i _ _ (ah hi) (ah hi')).1
  have:=(c1.mono u2.le).app c2;rw[List.take_append_drop] at this;exact⟨Z2,J2,_,u1.trans u2,this,k2⟩
theorem IM {K:List A->AS->Bool}(h:LS U J K=true)(hM:Mem M fr Z J st):∃ Z' J' l s ro t,Z.le Z'/\Mem M fr Z' J' st/\J'.mem.get U=some (s,.cl ro t l)/\(∀ a,a∈l->plain a=true)/\K l J'=true:=by
 unfold LS at h;split at h;case h_2=>cases h
 rename_i s ro t l hb;split at h;·rename_i q;exact⟨Z,J,l,s,ro,t,.refl _,hM,hb,by simpa using q,h⟩
 .split at h;case h_2=>cases h
  rename_i ks N _;split at h;case h_2=>cases h
  rename_i q;simp only[ae,T.beq_true] at q;obtain⟨b,n,pat,tr,ob,x1,x2,x3,cr,x4⟩:=hM.block hb;obtain⟨cnt,hN,rv⟩:=cr.LX;have hle:=eV hM.vr.zr hM.vr.z0 q.1.1 hN (eO hM.vr.z0 _);obtain⟨J1,u1,k1⟩:=pE h hM.vr hN (cW _) (by omega);obtain⟨cs,hcs⟩:=fj (n:=n) (pat:=pat) (tr:=tr) n 0 fun j hj=>cr.all _ (by omega);obtain⟨g1,g2⟩:=eP hcs;obtain⟨Z2,J2,l2,u2,c2,k2⟩:=xB k1 u1.vr (cs:=cs) (by rw[g1,rv.len,aY]) fun i c hc=>by obtain⟨c',k,e1,e2,e3⟩:=rv.at' (0+i) (by have:=(ai.1 hc).1;omega);rw[g2 i c hc] at e1;cases e1;rw[aI] at e2;exact⟨k,e2,e3.mono u1.le⟩
  split at k2;case h_2=>cases k2
  have u:=u1.trans u2;have hcr:CR Z2 l2 n pat tr:=by
   have:=c2.cr (pat:=pat) (tr:=tr) fun i hi=>by have:=g2 i _ (ah hi);rw[aI] at this;rw[ah hi,g1];exact this
   rwa [g1] at this
  refine⟨Z2,_,l2,s,ro,t,u.le,Mem.jZ (hM.up u) (b:=b) (hp:=[(b,ob)]) (by rw[u.same.mem];exact hb) (u.le.b x1) (u.le.o x2) (by rw[x3];exact AOR.of hcr),?_,c2.2.1,k2⟩;show(J2.mem.put U (some (s,.cl ro t l2))).get U=_;rw[T.eL,if_pos rfl]
theorem IN (hz:ZR Z z)(h0:Z.ints[0]?=some 0){n:LE}{k len:Nat}(h:E7 z n m=some k)(hn:Num Z n (len:Int)):len=k:=by
 unfold E7 at h;split at h;·rename_i k' q hq;cases h;rw[T.beq_true] at q;have:=eO h0 n.2;rw[show(0,n.2)=n from bQ q.symm rfl] at this;have:=hn.fn this;rw[hq] at this;exact Int.ofNat.inj this
 .split at h;·rename_i q;cases h;have:=jB hz h0 q hn (eO h0 _);exact Int.ofNat.inj this
  .cases h
theorem L3 {c:List A}(h:QI y w J=some (c,m))(hM:Mem M fr Z J st)(hy:AV Z y u):∃ vs,nh Z c vs/\vs.length=m * w/\elems st.h w u=some (m,vs):=by
 unfold QI at h;split at h;case h_2=>cases h
 rename_i U o n cap;cases hy with
 |sl hU ho hn hc=>
  rename_i b off len cp;split at h;case h_2=>cases h
  rename_i s ro t l hb;split at h;case h_2=>cases h
  rename_i mk q hmk;simp only[ae,T.beq_true,bz] at q;split at h;case h_2=>cases h
  rename_i c' hc';cases h;obtain⟨b',nn,pat,tr,ob,x1,x2,x3,cr,x4⟩:=hM.block hb;rw[hU] at x1;cases x1;have hm:len=m:=by have:=eO hM.vr.z0 n.2;rw[show(0,n.2)=n from bQ q.1.1.symm rfl] at this;have:=hn.fn this;rw[hmk] at this;exact Int.ofNat.inj this
  subst hm;have hoff:off=o.o:=by obtain⟨x,_,e⟩:=ho;rw[e,q.1.2];omega
  subst hoff;obtain⟨vs,v1,v2,v3⟩:=ux q.2 cr hc';refine⟨vs,v1,v2,?_⟩;have:eW st.h b o.o (Nat.mul len w)=some vs:=by simp only[eW,x4];cases ro<;>(simp only at x3;rw[x3];exact v3)
  simp only[elems,this]
theorem Fi (hM:Mem M fr Z J st)(hc:nh Z l vs)(q:(Nat.ble m 100000&&Nat.ble w 100000)=true)(hK:K (.sl J.nb (uv 0) (0,Int.ofNat m) (.al (0,Int.ofNat m) w)) (J.add (.cl false t l))=true):
  ∃ r h',grown st.h t w m vs=some (r,h')/\Eff M fr Z st r h' K:=by
 obtain⟨pat,tr,e1,e2⟩:=xw t vs;obtain⟨Z',hle,hb,hM'⟩:=hM.add (ao:=.cl false t l) (o:=mkO t vs) fun Z' hle=>by rw[e1];exact .cl ((hc.mono hle).cr e2)
 have hn:Num Z (0,Int.ofNat m) (m:Int):=eO hM.vr.z0 _;refine⟨.slice st.h.next 0 m (.atl m w),st.h.add (mkO t vs),?_,Z',_,_,hle,hM',.sl hb ⟨0,(fun q=>absurd rfl q),rfl⟩ (hn.mono hle) (.al (hn.mono hle)),hK⟩;unfold grown;rw[q]
theorem Fj {α:Type}{x:Option α}{K:α->Bool}(h:opt x K=true):∃ a,x=some a/\K a=true:=by
 cases x with
 |none=>cases h
 |some a=>exact⟨a,rfl,h⟩
theorem Fk (h:QJ elem te x y J K=true)(hM:Mem M fr Z J st)(hx:AV Z x v)(hy:AV Z y u):∃ n l r h',elems st.h te.size u=some (n,l)/\fO elem te st.h v n l=some (r,h')/\Eff M fr Z st r h' K:=by
 unfold QJ at h;obtain⟨p,hp,h⟩:=Fj h;obtain⟨vs,v1,v2,v3⟩:=L3 (c:=p.1) (m:=p.2) hp hM hy;split at h;·cases h
 rename_i q;simp only[ae] at q;have hm0:0<p.2:=az q.1.1;have hw0:0<te.size:=az q.1.2;split at h;case h_3=>cases h
 .cases hx;split at h;case h_2=>cases h
  rename_i q2;obtain⟨r,h',g1,g2⟩:=Fi (t:=some elem) (w:=te.size) (m:=p.2) hM v1 (by rw[q2,q.2];rfl) h;refine⟨p.2,vs,r,h',v3,?_,g2⟩;simp only[fO,T.beq_false (show p.2≠0 by omega)];exact g1
 .rename_i U o n c;cases hx with
  |sl hU ho hn hc=>
   rename_i b off len cap;split at h;case h_2=>cases h
   rename_i q2;simp only[ae,T.beq_true] at q2;have hoff:off=0:=by obtain⟨x,_,e⟩:=ho;rw[e,q2.1,q2.2];omega
   subst hoff;obtain⟨Z1,J1,l,s,ro,t,u1,hM1,hb,hpl,h⟩:=IM h hM;obtain⟨k,hk,h⟩:=Fj h;obtain⟨old,hold,h⟩:=Fj h;have hlk:=IN hM1.vr.zr hM1.vr.z0 hk (hn.mono u1);subst hlk;obtain⟨b',nn,pat,tr,ob,x1,x2,x3,cr,x4⟩:=hM1.block hb;rw[u1.b hU] at x1;cases x1;obtain⟨ws,w1,w2,w3⟩:=ux (o:=0) hpl cr (by rw[iM,List.drop_zero];exact hold);have hg:eW st.h b 0 (Nat.mul len te.size)=some ws:=by simp only[eW,x4];cases ro<;>(simp only at x3;rw[x3];exact w3)
   have all:=w1.app (v1.mono u1);have nle:∀ {c:Nat},leQ J1.z (plus (0,(c:Int)) 1) (0,Int.ofNat (Nat.add len p.2))=true->Nat.ble (Nat.add len p.2) c=false:=fun {c} hq=>by
    have:=eV hM1.vr.zr hM1.vr.z0 hq ((eO hM1.vr.z0 (c:Int)).plus 1) (eO hM1.vr.z0 _);cases e:Nat.ble (Nat.add len p.2) c with
    |false=>rfl
    |true=>have e:=az e;simp only[aN] at this;omega
   have nle':∀ {e:LE} {c:Nat},Num Z1 e (c:Int)->leQ J1.z (plus e 1) (0,Int.ofNat (Nat.add len p.2))=true->Nat.ble (Nat.add len p.2) c=false:=fun {e c} hc hq=>by
    have:=eV hM1.vr.zr hM1.vr.z0 hq (hc.plus 1) (eO hM1.vr.z0 _);cases e:Nat.ble (Nat.add len p.2) c with
    |false=>rfl
    |true=>have e:=az e;simp only[aN] at this;omega
   refine⟨p.2,vs,?_⟩;cases hc with
   |@kn _ C hc=>
    dsimp only at h;split at h;case h_2=>cases h
    rename_i q3;simp only[ae] at q3;obtain⟨r,h',g1,Z2,J2,a2,g2,g3,g4,g5⟩:=Fi (t:=some elem) (w:=te.size) (m:=Nat.add len p.2) hM1 all (by rw[q3.2,q.2];rfl) h;refine⟨r,h',v3,?_,Z2,J2,a2,u1.trans g2,g3,g4,g5⟩;simp only[fO,nle' (hc.mono u1) q3.1,hg];exact g1
   |@al _ C es hc=>
    dsimp only at h;split at h;case h_2=>cases h
    rename_i s' t' l' hb';rw[hb] at hb';cases hb';split at h;case h_2=>cases h
    rename_i q3;simp only[ae,T.beq_true] at q3;simp only at x3;subst x3;have hM2:=hM1.del hb (u1.b hU) x2;obtain⟨r,h',g1,Z2,J2,a2,g2,g3,g4,g5⟩:=Fi (t:=E5 t elem) (w:=te.size) (m:=Nat.add len p.2) hM2 all (by rw[q3.1.2,q.2];rfl) h;refine⟨r,h',v3,?_,Z2,J2,a2,u1.trans g2,g3,g4,g5⟩;simp only[fO,nle' (hc.mono u1) q3.1.1,hg,x4];rw[show Nat.beq te.size es=true from(T.beq_true).2 q3.2];simp only;rw[<- g1];congr 1
theorem L4 (h:LU k=true)(hk:KV Z k v):∃ z,v=.int .i64 z/\nX<=z/\z<=lA:=by
 unfold LU at h;split at h
 .have h:=of_decide_eq_true h;subst h;cases hk with
  |int r _ _=>exact⟨_,rfl,r⟩
 .cases h
theorem L5 {bo:Bool}(h:Rq elem te x y J K=some bo)(hbo:bo=true)(hM:Mem M fr Z J st)(hx:AV Z x v)(hy:AV Z y u):∃ n l r h',elems st.h te.size u=some (n,l)/\fO elem te st.h v n l=some (r,h')/\Eff M fr Z st r h' K:=by
 unfold Rq at h;split at h;case h_2=>cases h
 rename_i U o n c E g m capy;split at h;case h_2=>cases h
 rename_i sb ro0 t0 v0 sE ro tT k N hb hE;split at h;case h_2=>cases h
 rename_i q;simp only[ae,T.beq_true] at q;obtain⟨⟨⟨⟨⟨⟨⟨⟨⟨⟨⟨⟨q1,q2⟩,q3⟩,q4⟩,q5⟩,q6⟩,q7⟩,q8⟩,q9⟩,q10⟩,q11⟩,q12⟩,q13⟩:=q;have hK:=bP h;rw[hbo] at hK;clear h;have one:∀ {e:LE} {a:Int},isZ (plus e (-1))=true->Num Z e a->a=1:=fun {e a} he ha=>by simp only[isZ,plus,ae,T.beq_true,iT] at he;have:=eO hM.vr.z0 e.2;rw[show(0,e.2)=e from bQ he.1.symm rfl] at this;have:=ha.fn this;have e2:Int.add e.2 (-1)=0:=he.2;have e2:e.2+(-1)=0:=e2;omega
 cases hx with
 |sl hU ho hn hc=>
 rename_i b off len cap;cases hc with
 |@kn _ C hc=>
 cases hy with
 |sl hEb hu hm hcy=>
 rename_i bT offT mm capT;have hoff:off=0:=by obtain⟨x,_,e⟩:=ho;rw[e,q1,q2];omega
 have hoffT:offT=0:=by obtain⟨x,_,e⟩:=hu;rw[e,q5,q6];omega
 have hlen:len=1:=by have:=one q3 hn;omega
 have hC:C=1:=by have:=one q4 hc;omega
 subst hoff hoffT hlen hC;obtain⟨b',n1,pat1,tr1,ob1,x1,x2,x3,cr1,x4⟩:=hM.block hb;rw[hU] at x1;cases x1;obtain⟨bT',nT,patT,trT,oT,y1,y2,y3,crT,y4⟩:=hM.block hE;rw[hEb] at y1;cases y1;obtain⟨cnt,hN,rv⟩:=crT.LX;have hmc:mm=cnt:=by have:=jB hM.vr.zr hM.vr.z0 q7 hm hN;omega
 subst hmc;have hnT:nT=mm:=by have:=rv.len;simpa using this
 subst hnT;have hm1:=eV hM.vr.zr hM.vr.z0 q10 (eO hM.vr.z0 _) hm;have hm2:=eV hM.vr.zr hM.vr.z0 q11 (hm.plus 1) (eO hM.vr.z0 _);have hv0:=uh hM.vr.zr hM.vr.z0 q12 (eO hM.vr.z0 v0);obtain⟨hl1,hcell1⟩:=ng (l:=[.k (.int .i64 v0)]) (fun a ha=>by rw[aj.1 ha];rfl) cr1;obtain⟨w0,w1,w2⟩:=hcell1 0 _ rfl;cases w2;have hn1:n1=1:=hl1;subst hn1;have hg0:eW st.h b 0 (Nat.mul 1 te.size)=some [.int .i64 v0]:=by
  rw[q9];have:fC 1 pat1 tr1 0 1=some [.int .i64 v0]:=by simp only[fC,w1]
  simp only[eW,x4];cases ro0<;>(simp only at x3;rw[x3];exact this)
 have hints:∀ i,i<nT->∃ z,cell nT patT trT i=some (.int .i64 z)/\nX<=z/\z<=lA:=fun i hi=>by obtain⟨c,k',a1,a2,a3⟩:=rv.at' i hi;rw[show i % [k].length=0 from dB _] at a2;cases a2;obtain⟨z,e,r⟩:=L4 q8 a3;subst e;exact⟨z,a1,r⟩
 obtain⟨cs,hcs⟩:=fj (n:=nT) (pat:=patT) (tr:=trT) nT 0 fun j hj=>by obtain⟨z,a,_⟩:=hints (0+j) (by omega);rw[a];rfl
 obtain⟨g1,g2⟩:=eP hcs;have hel:elems st.h te.size (.slice bT 0 nT capT)=some (nT,cs):=by
  have:eW st.h bT 0 (Nat.mul nT te.size)=some cs:=by rw[q9,show Nat.mul nT 1=nT from eA _];simp only[eW,y4];cases ro<;>(simp only at y3;rw[y3];exact hcs)
  simp only[elems,this]
 let f:Nat->Int:=fun i=>match ((.int .i64 v0:V) :: cs)[i]? with
  |some (.int _ z)=>z
  |_=>0
 have fz:f 0=v0:=rfl;have fs:∀ i,i<nT->cell nT patT trT i=some (.int .i64 (f (i+1)))/\nX<=f (i+1)/\f (i+1)<=lA:=fun i hi=>by
  obtain⟨z,a,r⟩:=hints i hi;have h1:=ah (l:=cs) (i:=i) (by omega);have h2:=g2 i _ h1;rw[aI,a] at h2;have h3:f (i+1)=z:=by show(match ((.int .i64 v0:V) :: cs)[i+1]? with|some (.int _ z)=>z|_=>0)=z;rw[aQ,h1,<- bP h2]
  rw[h3];exact⟨a,r⟩
 have fl:∀ i,i<((.int .i64 v0:V) :: cs).length->((.int .i64 v0:V) :: cs)[i]?=some (.int .i64 (f i)):=fun i hi=>by
  cases i with
  |zero=>rfl
  |succ i=>
   have hi':i<nT:=by simp only[aU] at hi;omega
   have h1:=ah (l:=cs) (i:=i) (by omega);have h2:=g2 i _ h1;rw[aI,(fs i hi').1] at h2;rw[aQ,h1,<- bP h2]
 have fb:∀ i,i<nT+1->nX<=f i/\f i<=lA:=fun i hi=>by
  cases i with
  |zero=>exact hv0
  |succ i=>exact(fs i (by omega)).2
 obtain⟨pat',tr',e1,e2⟩:=xw (some elem) ((.int .i64 v0:V) :: cs);have hlc:((.int .i64 v0:V) :: cs).length=nT+1:=by simp[g1]
 have hbT:=(hM.hr.at' _ _ _ hE);obtain⟨_,hpT,z1,z2,_,z4⟩:=hbT;rw[hEb] at z1;cases z1;rw[y2] at z2;cases z2;have hbTn:bT<st.h.next:=(z4 (bT,oT) (by simp)).2.1;obtain⟨Z',hle,hbl,hM'⟩:=(hM.swap (h':=st.h.add (mkO (some elem) ((.int .i64 v0:V) :: cs))) (hp':=[(st.h.next,mkO (some elem) ((.int .i64 v0:V) :: cs)),(bT,oT)]) (ao':=.sp E ro (some elem) tT v0 m m [((0,0),(0,v0))]) hE hEb y2 (by rw[gB];omega) (fun x hx _=>by rw[iE,if_neg (by omega)]) (fun p hp=>by
   simp only[aq,aA,or_false] at hp;rcases hp with rfl|rfl
   .exact⟨by rw[iE,if_pos rfl],by rw[gB];exact cF _,.inr (aF _)⟩
   .exact⟨by rw[iE,if_neg (by omega)];exact y4,by rw[gB];omega,.inl (by simp)⟩)).2 st.h.next (fun Z' hle _=>by
  rw[e1,hlc];refine .sp (hle.b hEb) (hm.mono hle) (f:=f) ⟨by exact_mod_cast (hm.mono hle).plus 1,fb,⟨(nT:Int),hm.mono hle,(fun i j a1 a2 a3=>by
   have:i=j:=by omega
   subst this;exact bY _),fun i _ _=>⟨(fun _ h=>nomatch h),(fun _ h=>nomatch h)⟩⟩,fun p hp=>by
   simp only[aq,aA,or_false] at hp;subst hp;exact⟨0,eO (hle.i hM.vr.z0) 0,by omega,eO (hle.i hM.vr.z0) v0⟩⟩ fz (fun i hi=>by
   rw[<- hlc,e2 i (by rw[hlc];exact hi)];exact fl i (by rw[hlc];exact hi)) (fun i hi=>(fs i hi).1) (by rw[y3];cases ro<;>rfl) (by omega))
 refine⟨nT,cs,_,_,hel,?_,Z',_,_,hle,hM',.sl hbl ⟨0,(fun q=>absurd rfl q),rfl⟩ (l:=(by exact_mod_cast (hm.mono hle).plus 1:Num Z' (plus m 1) ((nT+1:Nat):Int))) (.al (by exact_mod_cast (hm.mono hle).plus 1:Num Z' (plus m 1) ((nT+1:Nat):Int))),hK⟩;simp only[fO];rw[show Nat.ble (Nat.add 1 nT) 1=false from by
  cases e:Nat.ble (Nat.add 1 nT) 1 with
  |false=>rfl
  |true=>have e:1+nT<=1:=az e;omega]
 simp only[hg0,List.singleton_append];unfold grown;rw[show(Nat.ble (Nat.add 1 nT) 100000&&Nat.ble te.size 100000)=true by rw[q9,aH (show Nat.add 1 nT<=100000 by show 1+nT<=_;omega)];rfl];simp only[q9];rw[show Nat.add 1 nT=nT+1 from bp _ _];rfl
theorem L6 {bo:Bool}(h:Rr elem te x y J K=some bo)(hbo:bo=true)(hM:Mem M fr Z J st)(hx:AV Z x v)(hy:AV Z y u):∃ n l r h',elems st.h te.size u=some (n,l)/\fO elem te st.h v n l=some (r,h')/\Eff M fr Z st r h' K:=by
 unfold Rr at h;split at h;·cases h;exact Fk hbo hM hx hy
 .exact L5 h hbo hM hx hy
theorem Dp {G:Γ}{ty tx:Option TY}(h:zU G ty tx x y J K=true)(hM:Mem M fr Z J st)(hx:AV Z x v)(hy:AV Z y u):∃ r h',pL G ty tx st.h (some v) (some u)=some (r,h')/\Eff M fr Z st r h' K:=by
 unfold zU at h;split at h;case h_2=>cases h
 rename_i ty tx;split at h;case h_2=>cases h
 rename_i elem zs hd hi;unfold opt at h;split at h;case h_2=>cases h
 rename_i te hte;dsimp only at h;have red:pL G (some ty) (some tx) st.h (some v) (some u)=match news te zs st.h u with
   |some (n,l)=>fO elem te st.h v n l
   |none=>none:=by
  simp only[pL,hd,hi,hte];cases news te zs st.h u<;>rfl
 rw[red];split at h
 .
  cases hy;simp only[news,elems];split at h;·cases hx;exact⟨.nils,st.h,rfl,Z,J,_,.refl _,hM,.k _,h⟩
  .rename_i U o n c;cases hx with
   |sl hU ho hn hc=>
    rename_i b off m cp;split at h;case h_2=>cases h
    rename_i s t l hb q;simp only[ae,T.beq_true] at q;split at h;case h_2=>cases h
    rename_i r hr;split at h;case h_2=>cases h
    rename_i q2;simp only[ae] at q2;obtain⟨b',nn,pat,tr,ob,x1,x2,x3,cr,x4⟩:=hM.block hb;rw[hU] at x1;cases x1;simp only at x3;subst x3;obtain⟨hk,cnt,hN,rv⟩:=iD hM.vr.zr hM.vr.z0 (ks:=r.1) (N:=r.2) hr cr;have hle:=eV hM.vr.zr hM.vr.z0 q2.1 hn hN;obtain⟨x0,y1,y2⟩:=ho;have hoff:off=0:=by rw[y2,q.1,q.2];omega
    subst hoff;obtain⟨h',p1,Z',p2,p3⟩:=inPlace (m:=0) (len:=m) (cs:=[]) hM hb hU x2 x4 hk (by rw[<- hk];exact rv.len) hN (by rw[<- hk];exact rv.at') (by simp) (fun i c h=>by simp at h) (by omega);cases hc with
    |@kn _ c0 hc=>have hlec:=eV hM.vr.zr hM.vr.z0 q2.2 hn hc;refine⟨.slice b 0 m (.known c0),h',?_,Z',_,_,p2,p3,(AV.sl hU ⟨x0,y1,y2⟩ hn (.kn hc)).mono p2,h⟩;simp only[fO];rw[show Nat.ble (Nat.add m 0) c0=true from aH (by show m+0<=c0;omega)];simp only[p1];rfl
    |@al _ c0 es hc=>have q3:=q2.2;simp only[ae,T.beq_true] at q3;have hlec:=eV hM.vr.zr hM.vr.z0 q3.1 hn hc;refine⟨.slice b 0 m (.atl c0 es),h',?_,Z',_,_,p2,p3,(AV.sl hU ⟨x0,y1,y2⟩ hn (.al hc)).mono p2,h⟩;simp only[fO];rw[show Nat.beq te.size es=true from(T.beq_true).2 q3.2,show Nat.ble (Nat.add m 0) c0=true from aH (by show m+0<=c0;omega)];simp only[p1];rfl
  .cases h
 .split at h
  .rename_i bo hbo;split at hbo;·obtain⟨n,l,r,h',g1,g2,g3⟩:=L6 hbo h hM hx hy;refine⟨r,h',?_,g3⟩;simp only[news,g1];exact g2
   .cases hbo
  split at h;case h_1=>
   split at h;case h_2=>cases h
   split at h;·obtain⟨n,l,r,h',g1,g2,g3⟩:=IL h hM hx hy;refine⟨r,h',?_,g3⟩;simp only[news,g1];exact g2
   .obtain⟨n,l,r,h',g1,g2,g3⟩:=Fk h hM hx hy;refine⟨r,h',?_,g3⟩;simp only[news,g1];exact g2
  rename_i p hp;generalize OL x te.size J=hh at hp;obtain⟨hkp,m,cs,hm,hel,hcl,hcs⟩:=LY (ks:=p.1) (n:=p.2) hp hM hy;simp only[hel];split at h
  .
   cases hx;obtain⟨J',u',k⟩:=iu h hM.vr (.eq hm (eO hM.vr.z0 0));by_cases e:m=0;·subst e;simp only[Int.natCast_zero,decide_true] at k;have:cs=[]:=aO.1 (by rw[hcl];rfl);subst this;exact⟨.nils,st.h,rfl,Z,J',_,.refl _,hM.up u',.k _,k⟩
   .have e':¬ ((m:Int)=0):=by omega
    simp only[e',decide_false] at k;obtain⟨r,h',g1,g2⟩:=rM k (hM.up u') hkp hm hcl hcs;refine⟨r,h',?_,g2⟩;simp only[fO,T.beq_false e];exact g1
  .rename_i U o n c hno;clear hno;cases hx with
   |sl hU ho hn hc=>
    rename_i b off len cp;split at h;case h_2=>cases h
    rename_i s t l hb q;simp only[ae,T.beq_true] at q;split at h;case h_2=>cases h
    rename_i r hr;split at h;case h_2=>cases h
    rename_i ks hj;split at h;case h_2=>cases h
    rename_i q2;simp only[ae] at q2;obtain⟨b',nn,pat,tr,ob,x1,x2,x3,cr,x4⟩:=hM.block hb;rw[hU] at x1;cases x1;simp only at x3;subst x3;obtain⟨hk,cnt,hN,rv⟩:=LZ (ks:=r.1) (N:=r.2) hr hM.vr.zr hM.vr.z0 hkp cr;have hle:=eV hM.vr.zr hM.vr.z0 q2.1 hn hN;obtain⟨j1,j2,j3⟩:=kJ hM.vr.zr hM.vr.z0 hj;obtain⟨x0,y1,y2⟩:=ho;have hoff:off=0:=by rw[y2,q.1,q.2];omega
    subst hoff;have hkw:ks.length=te.size:=by rw[j1,hk]
    have hkk:∀ i,i<te.size->∃ k,ks[i]?=some k:=fun i hi=>⟨_,ah (by omega)⟩;have hold:∀ i,i<nn->∃ c k,cell nn pat tr i=some c/\ks[i % te.size]?=some k/\KV Z k c:=fun i hi=>by obtain⟨c,k,a1,a2,a3⟩:=rv.at' i hi;rw[hk] at a2;obtain⟨k',hk'⟩:=hkk (i % te.size) (by have:=(ai.1 a2).1;omega);exact⟨c,k',a1,hk',(j3 _ _ hk').1 _ a2 _ a3⟩
    have hnew:∀ (i:Nat) (c:V),cs[i]?=some c->∃ k,ks[i % te.size]?=some k/\KV Z k c:=fun i c hi=>by obtain⟨k,a1,a2⟩:=hcs i c hi;obtain⟨k',hk'⟩:=hkk (i % te.size) (by have:=(ai.1 a1).1;omega);exact⟨k',hk',(j3 _ _ hk').2 _ a1 _ a2⟩
    obtain⟨Z1,J1,em,u1,hem,k1⟩:=M7 h hM.vr hn hm;have hM1:=hM.up u1;have hb1:J1.mem.get U=some (s,.cl false t l):=by rw[u1.same.mem];exact hb
    have hnn:nn=te.size * cnt:=by rw[<- hk];exact rv.len
    obtain⟨old,hold2⟩:=fj (n:=nn) (pat:=pat) (tr:=tr) (len * te.size) 0 fun j hj=>cr.all _ (by have:len * te.size<=cnt * te.size:=bD _ (by omega);rw[hnn,aY te.size];omega);obtain⟨g1,g2⟩:=eP hold2;have hall:∀ (Z':NV),Z.le Z'->∀ (i:Nat) (c:V),(old++cs)[i]?=some c->∃ k,ks[i % te.size]?=some k/\KV Z' k c:=fun Z' hle' i c hi=>by
     rw[aG] at hi;split at hi;·rename_i q;have:=g2 i c hi;rw[aI] at this;obtain⟨c',k,a1,a2,a3⟩:=hold i (eT this);rw[this] at a1;cases a1;exact⟨k,a2,a3.mono hle'⟩
     .rename_i q;obtain⟨k,a1,a2⟩:=hnew _ c hi;refine⟨k,?_,a2.mono hle'⟩;have:i % te.size=(i - old.length) % te.size:=by
       have e4:i=(i - old.length)+len * te.size:=by rw[g1];rw[g1] at q;omega
       rw[g1] at e4 ⊢
       conv=>lhs;rw[e4]
       exact cK _ _ _
      rw[this];exact a1
    have hlen:(old++cs).length=te.size * (len+m):=by rw[bt,g1,hcl,Nat.mul_add,aY len]
    have hg:eW st.h b 0 (Nat.mul len te.size)=some old:=by simp only[eW,x4];exact hold2
    have hold1:∀ i,i<nn->∃ c k,cell nn pat tr i=some c/\ks[i % te.size]?=some k/\KV Z1 k c:=fun i hi=>let ⟨c,k,a,b,d⟩:=hold i hi;⟨c,k,a,b,d.mono u1.le⟩;have hnew1:∀ (i:Nat) (c:V),cs[i]?=some c->∃ k,ks[i % te.size]?=some k/\KV Z1 k c:=fun i c hi=>let ⟨k,a,b⟩:=hnew i c hi;⟨k,a,b.mono u1.le⟩;split at k1
    .cases hc with
     |kn hc=>
      rename_i c0;obtain⟨J2,u2,k2⟩:=iu k1 hM1.vr (.lt (hc.mono u1.le) hem);have hM2:=hM1.up u2;by_cases qq:len+m<=c0
      .have:¬ ((c0:Int)<((len+m:Nat):Int)):=by omega
       simp only[this,decide_false] at k2;split at k2;case h_2=>cases k2
       rename_i q5;have hle2:=eV u2.vr.zr u2.vr.z0 q5 (hem.mono u2.le) ((hN.mono u1.le).mono u2.le);have hb2:J2.mem.get U=some (s,.cl false t l):=by rw[u2.same.mem];exact hb1
       obtain⟨h',p1,Z',p2,p3⟩:=inPlace (w:=te.size) (m:=m) (len:=len) (cs:=cs) (ks:=ks) (N:=r.2) hM2 hb2 (u1.le.b hU) (u1.le.o x2) x4 hkw hnn ((hN.mono u1.le).mono u2.le) hold1 hcl hnew1 (by omega);refine⟨.slice b 0 (Nat.add len m) (.known c0),h',?_,Z',_,_,u1.le.trans p2,p3,(AV.sl (u1.le.b hU) ⟨x0,(fun q=>(y1 q).mono u1.le),y2⟩ hem (.kn (hc.mono u1.le))).mono p2,k2⟩;simp only[fO];rw[show Nat.ble (Nat.add len m) c0=true from aH qq];simp only[p1]
      .have:((c0:Int)<((len+m:Nat):Int)):=by omega
       simp only[this,decide_true] at k2;obtain⟨r',h',a1,a2⟩:=rM k2 hM2 hkw (hem.mono u2.le) hlen (hall Z1 u1.le);refine⟨r',h',?_,?_⟩
       .simp only[fO];rw[show Nat.ble (Nat.add len m) c0=false from by
         cases e:Nat.ble (Nat.add len m) c0 with
         |false=>rfl
         |true=>exact absurd (az e) qq]
        simp only[hg];exact a1
       .obtain⟨Z',J',a',l1,l2,l3,l4⟩:=a2;exact⟨Z',J',a',u1.le.trans l1,l2,l3,l4⟩
    .cases hc with
     |al hc=>
      rename_i c0;split at k1;case h_2=>cases k1
      rename_i qs;obtain⟨J2,u2,k2⟩:=iu k1 hM1.vr (.lt (hc.mono u1.le) hem);have hM2:=hM1.up u2;have hb2:J2.mem.get U=some (s,.cl false t l):=by rw[u2.same.mem];exact hb1
      by_cases qq:len+m<=c0
      .have:¬ ((c0:Int)<((len+m:Nat):Int)):=by omega
       simp only[this,decide_false] at k2;split at k2;case h_2=>cases k2
       rename_i q5;have hle2:=eV u2.vr.zr u2.vr.z0 q5 (hem.mono u2.le) ((hN.mono u1.le).mono u2.le);obtain⟨h',p1,Z',p2,p3⟩:=inPlace (w:=te.size) (m:=m) (len:=len) (cs:=cs) (ks:=ks) (N:=r.2) hM2 hb2 (u1.le.b hU) (u1.le.o x2) x4 hkw hnn ((hN.mono u1.le).mono u2.le) hold1 hcl hnew1 (by omega);refine⟨.slice b 0 (Nat.add len m) (.atl c0 _),h',?_,Z',_,_,u1.le.trans p2,p3,(AV.sl (u1.le.b hU) ⟨x0,(fun q=>(y1 q).mono u1.le),y2⟩ hem (.al (hc.mono u1.le))).mono p2,k2⟩;simp only[fO];rw[qs,show Nat.ble (Nat.add len m) c0=true from aH qq];simp only[p1]
      .have:((c0:Int)<((len+m:Nat):Int)):=by omega
       simp only[this,decide_true] at k2;have hM3:=Mem.del hM2 hb2 (u1.le.b hU) (u1.le.o x2);obtain⟨r',h',a1,a2⟩:=rM k2 hM3 hkw (hem.mono u2.le) hlen (hall Z1 u1.le);refine⟨r',h',?_,?_⟩
       .simp only[fO];rw[qs,show Nat.ble (Nat.add len m) c0=false from by
         cases e:Nat.ble (Nat.add len m) c0 with
         |false=>rfl
         |true=>exact absurd (az e) qq]
        simp only[x4,hg];have:oI 0 t elem=E5 t elem:=by
         unfold oI E5;unfold Ba;cases t with
         |none=>rfl
         |some t'=>
          simp only;cases e:Nat.beq t' elem with
          |false=>rfl
          |true=>rfl
        rw[this];exact a1
       .obtain⟨Z',J',a',l1,l2,l3,l4⟩:=a2;exact⟨Z',J',a',u1.le.trans l1,l2,l3,l4⟩
  .cases h
theorem L7 (h:II x=some U){b:Nat}{c:Cap}(hx:AV Z x (.slice b o n c)):Z.blks[U]?=some b:=by
 unfold II at h;split at h
 .cases h;cases hx with
  |sl h1=>exact h1
 .cases h;cases hx with
  |su h1=>exact h1
 .cases h
theorem Fl {G:Γ}{ty:Option TY}(h:E8 G ty x J K=true)(hM:Mem M fr Z J st)(hx:AV Z x v):∃ r h',uR G ty st.h (some v)=some (r,h')/\Eff M fr Z st r h' K:=by
 unfold E8 at h;split at h;case h_2=>cases h
 rename_i ty;split at h;case h_3=>cases h
 .rename_i hd;cases hx;exact⟨.tuple [],st.h,by simp only[uR,hd],Z,J,_,.refl _,hM,.tp .nil,h⟩
 .rename_i x elem hd hne;unfold opt at h;split at h;case h_2=>cases h
  rename_i U hU0;dsimp only at h;split at h;case h_2=>cases h
  rename_i s t l te hb hte;split at h;case h_2=>cases h
  rename_i r p z hr hp hz;split at h;case h_2=>cases h
  rename_i kz hkz;split at h;case h_2=>cases h
  rename_i ks hj;split at h;case h_2=>cases h
  rename_i q;simp only[ae,T.beq_true] at q;obtain⟨k1,m,cs,k2,k3,k4,k5,k6⟩:=Fh (ks:=p.1) (n:=p.2) hp hM hx;have hm0:=eV hM.vr.zr hM.vr.z0 q.2 (eO hM.vr.z0 _) k2;obtain⟨b,o,c,rfl⟩:∃ b o c,v=.slice b o m c:=by
   rcases k6 with⟨_,e⟩|k6;·omega
   .exact k6
  have hU:=L7 hU0 hx;obtain⟨b',nn,pat,tr,ob,x1,x2,x3,cr,x4⟩:=hM.block hb;rw[hU] at x1;cases x1;simp only at x3;subst x3;obtain⟨hk,cnt,hN,rv⟩:=iD hM.vr.zr hM.vr.z0 (ks:=r.1) (N:=r.2) hr cr;obtain⟨j1,j2,j3⟩:=kJ hM.vr.zr hM.vr.z0 hj;obtain⟨z1,z2⟩:=BM (Z:=Z) hkz;obtain⟨⟨q1,hw1⟩,q3⟩:=q;have hks:ks.length=1:=by rw[j1,hk,hw1]
  obtain⟨k0,hk0⟩:∃ k0,ks[0]?=some k0:=⟨_,ah (by omega)⟩;have hm1:=eV hM.vr.zr hM.vr.z0 q3 (eO hM.vr.z0 _) k2;have hle:o+m<=nn:=by
   simp only[elems] at k3;split at k3;case h_2=>cases k3
   rename_i l' hl';cases k3;simp only[eW,x4,hw1] at hl';obtain⟨g1,g2⟩:=eP hl';have g1:cs.length=m:=by rw[g1];show m * 1=m;omega
   have h2:=g2 (m - 1) _ (ah (by omega));have:=eT h2;omega
  have hlz:(rep m z).length=m:=by rw[vF,q1,hw1];omega
  have hput:putCells st.h b o (rep m z)=some (st.h.set b (some (.cells t nn pat (qL o (rep m z) tr)))):=by simp only[putCells,x4];rw[show Nat.ble (Nat.add o (rep m z).length) nn=true from aH (by rw[hlz];exact hle)]
  have hcr:CR Z [.rw ks r.2 none] nn pat (qL o (rep m z) tr):=tS.cr ⟨by rw[hks,<- hw1,<- hk];exact rv.len,fun i hi=>by
   have e0:i % ks.length=0:=by rw[hks];omega
   rw[e0];rw[lF hi];split
   .rename_i e;have h1:=ah (l:=rep m z) (i:=i - o) (by omega);have h2:=vE h1;obtain⟨k,a1,a2⟩:=z2 _ _ h2;have e1:(i - o) % z.length=0:=by rw[q1,hw1];omega
    rw[e1] at a1;exact⟨_,k0,h1,hk0,(j3 0 k0 hk0).2 k a1 _ a2⟩
   .obtain⟨c,k,a1,a2,a3⟩:=rv.at' i hi;have e1:i % r.1.length=0:=by rw[hk,hw1];omega
    rw[e1] at a2;exact⟨c,k0,a1,hk0,(j3 0 k0 hk0).1 k a2 _ a3⟩⟩ hN
  obtain⟨Z',l',m'⟩:=hM.gG (ao':=.cl false t [.rw ks r.2 none]) (o':=.cells t nn pat (qL o (rep m z) tr)) hb hU x2 (.cl hcr);refine⟨.tuple [],_,?_,Z',_,_,l',m',.tp .nil,h⟩;simp only[uR,hd,hte,hz,hput]
end
end Go.Ae
namespace Go.Ae
open Go.Ev
variable {v:V}{c:List A}{w n:Nat}{pat:List V}{tr:T V}{t:TypeId}
theorem EE {c:V}(h:(rI v c&&plain (.k v))=true):v=c/\plain (.k v)=true:=by simp only[ae] at h;exact⟨nu h.1,h.2⟩
theorem Kl {Z:NV}:∀ {ks:List EK} {cs:List V},QK ks cs=true->cs.length=ks.length/\∀ (i:Nat) (c:V),cs[i]?=some c->∃ k,ks[i]?=some k/\KV Z k c
 |[],cs,h=>by
  cases cs with
  |nil=>exact⟨rfl,fun i c h=>by simp at h⟩
  |cons=>cases h
 |k :: ks,cs,h=>by
  cases cs with
  |nil=>cases k<;>cases h
  |cons c cs=>
   cases k with
   |cst v=>
    simp only[QK] at h;split at h
    .rename_i q;obtain⟨rfl,_⟩:=EE q;obtain⟨l1,l2⟩:=Kl (Z:=Z) h;refine⟨by simp[l1],fun i c' hc=>?_⟩;cases i with
     |zero=>simp at hc;subst hc;exact⟨_,rfl,.cst _⟩
     |succ i=>obtain⟨k,a,b⟩:=l2 i c' (by simpa using hc);exact⟨k,by simpa using a,b⟩
    .cases h
   |_=>cases h
theorem EG {Z:NV}{ks:List EK}:∀ {m:Nat} {cs:List V},IJ ks m cs=true->cs.length=ks.length * m/\∀ (i:Nat) (c:V),cs[i]?=some c->∃ k,ks[i % ks.length]?=some k/\KV Z k c
 |0,cs,h=>by
  cases cs with
  |nil=>exact⟨by simp,fun i c h=>by simp at h⟩
  |cons=>cases h
 |m+1,cs,h=>by
  simp only[IJ] at h;split at h;case h_2=>cases h
  rename_i c hc;split at h;case h_2=>cases h
  rename_i q;obtain⟨c1,c2⟩:=iL _ _ _ hc;obtain⟨e1,e2⟩:=Kl (Z:=Z) q;rw[iM] at h;obtain⟨r1,r2⟩:=EG (Z:=Z) h;rw[bO] at r1;refine⟨by rw[Nat.mul_add];omega,fun i c' hi=>?_⟩;by_cases g:i<ks.length;·rw[bS g];exact e2 i c' (by rw[c1,cD,if_pos g];exact hi)
  .obtain⟨j,rfl⟩:=bI (show ks.length<=i by omega);rw[Nat.add_mod_left];exact r2 j c' (by rw[bJ];exact hi)
theorem qT {Z:NV}(h0:Z.ints[0]?=some 0):∀ {l:List A} {cs:List V},xA l cs=true->gp Z l cs.length/\∀ (i:Nat) (c:V),cs[i]?=some c->CA Z l i c
 |[],cs,h=>by
  cases cs with
  |nil=>exact⟨.nil,fun i c h=>by simp at h⟩
  |cons=>cases h
 |a :: l,cs,h=>by
  simp only[xA] at h;split at h
  .rename_i ks n;split at h;case h_2=>cases h
   rename_i m q1 q2;rw[T.beq_true] at q1;split at h;case h_2=>cases h
   rename_i c hc;split at h;case h_2=>cases h
   rename_i q;obtain⟨c1,c2⟩:=iL _ _ _ hc;have c2:ks.length * m<=cs.length:=c2;obtain⟨e1,e2⟩:=EG (Z:=Z) q;rw[iM] at h;obtain⟨r1,r2⟩:=qT h0 h;have hn:Num Z n m:=⟨0,by rw[q1];exact h0,by rw[q2];simp⟩;have hw:WV Z (.rw ks n none) (ks.length * m):=.rw hn fun _ _ e=>nomatch e;have r1:gp Z l (cs.length - ks.length * m):=by rw[bO] at r1;exact r1
   refine⟨?_,fun i c' hi=>?_⟩;·have:=gp.cons hw r1;rw[show ks.length * m+(cs.length - ks.length * m)=cs.length by omega] at this;exact this
   .by_cases g:i<ks.length * m;·obtain⟨k,k1,k2⟩:=e2 i c' (by rw[c1,cD,if_pos (show i<Nat.mul ks.length m from g)];exact hi);exact .row hn g (fun _ _ e=>nomatch e) k1 k2
    .obtain⟨j,rfl⟩:=bI (show ks.length * m<=i by omega);exact .skip hw (r2 j c' (by rw[bJ];exact hi))
  .split at h
   .split at h
    .rename_i q;obtain⟨e,qp⟩:=EE q;subst e;obtain⟨r1,r2⟩:=qT h0 h;refine⟨?_,fun i c' hi=>?_⟩;·have:=gp.cons (eZ (Z:=Z) qp) r1;rw[bp] at this;exact this
     .cases i with
      |zero=>simp at hi;subst hi;exact .here qp (.k _)
      |succ i=>have:=CA.skip (eZ (Z:=Z) qp) (r2 i c' (by simpa using hi));rw[bp] at this;exact this
    .cases h
   .cases h
  .cases h
theorem VC.cr {Z:NV}(h:VC Z c (.agg w pat tr) w):CR Z c w pat tr:=
 ⟨h.len,fun i hi=>let ⟨x,a,_⟩:=h.get i hi;by show(cell w pat tr i).isSome=true;rw[show cell w pat tr i=some x from a];rfl,fun i c hc=>by obtain⟨x,a,b⟩:=h.get i (eT hc);rw[show vc (.agg w pat tr) i=cell w pat tr i from rfl,hc] at a;cases a;exact b⟩
section
variable {M:TH}{fr:FR}{Z:NV}{J:AS}{st:St}{K:A->AS->Bool}
def Im (M:TH)(Z:NV)(J:AS)(f:Nat->Option (O×V))(K:A->AS->Bool):Prop:=
 ∃ ao a o,∃ vf:Nat->V,K a (J.add ao)=true/\(∀ id,f id=some (o,vf id))/\(∀ (Z':NV) (id:Nat),Z.le Z'->Z'.blks[J.nb]?=some id->AV Z' a (vf id))/\∀ (Z':NV) (b:Nat),Z.le Z'->AOR M Z' ao b [(b,o)]
theorem Im.eff {f:Nat->Option (O×V)}(h:Im M Z J f K)(hM:Mem M fr Z J st):∃ o r,f st.h.next=some (o,r)/\Eff M fr Z st r (st.h.add o) K:=by obtain⟨ao,a,o,vf,h1,h2,h3,h4⟩:=h;obtain⟨Z',l1,l2,l3⟩:=hM.add (ao:=ao) (o:=o) fun Z' hle=>h4 Z' _ hle;exact⟨o,vf st.h.next,h2 _,Z',_,a,l1,l3,h3 Z' _ l1 l2,h1⟩
theorem Km (hc:VC Z c v w)(h:K (.p J.nb (uv 0)) (J.add (.cl false (some t) c))=true):Im M Z J (Ev.BK t (some v)) K:=by
 have ptr:∀ (Z':NV) (id:Nat),Z.le Z'->Z'.blks[J.nb]?=some id->AV Z' (.p J.nb (uv 0)) (.ptr id 0):=fun Z' id _ hb=>.p hb ⟨0,fun q=>absurd rfl q,rfl⟩;rcases hc.kind with⟨pat,tr,rfl⟩|⟨rfl,hs⟩
 .exact⟨_,_,.cells (some t) w pat tr,fun id=>.ptr id 0,h,fun _=>rfl,ptr,fun Z' b hle=>.cl (hc.cr.mono hle)⟩
 .have hcr:CR Z c 1 [v] .leaf:=by
   refine⟨hc.len,fun i hi=>?_,fun i x hx=>?_⟩
   .have:i=0:=by omega
    subst this;rfl
   .have:=eT hx;have:i=0:=by omega
    subst this;obtain⟨y,a,b⟩:=hc.get 0 (by omega);rw[lM hs] at a;cases a;have:cell 1 [v] .leaf 0=some v:=rfl;rw[this] at hx;cases hx;exact b
  refine⟨_,_,.cells (some t) 1 [v] .leaf,fun id=>.ptr id 0,h,fun id=>?_,ptr,fun Z' b hle=>.cl (hcr.mono hle)⟩;cases v<;>first|rfl|(simp[V.scalar] at hs)
theorem Lu {x:A}(h:BK t x J K=true)(hM:VR Z J)(hx:AV Z x v):Im M Z J (Ev.BK t (some v)) K:=by
 unfold Ae.BK opt at h;split at h;case h_2=>cases h
 rename_i l hl;obtain⟨w,hc⟩:=B8 hM.zr hM.z0 hl hx;exact Km hc h
theorem vu {ty:TY}{cs:List V}(hz:ty.zero=some v)(h:zeroV ty=some cs){l:List A}(hl:gp Z l cs.length)(hc:∀ (i:Nat) (c:V),cs[i]?=some c->CA Z l i c):VC Z l v cs.length:=by
 unfold zeroV at h;rw[hz] at h;cases v with
 |agg n pat tr=>simp only at h;obtain⟨g1,g2⟩:=eP h;refine⟨hl,fun j hj=>?_,.inl ⟨pat,tr,by rw[g1]⟩⟩;have:=ah hj;have h2:=g2 _ _ this;rw[aI] at h2;exact⟨_,h2,hc _ _ this⟩
 |tuple=>cases h
 |_=>
  simp only at h;cases h;refine⟨hl,fun j hj=>?_,.inr ⟨rfl,rfl⟩⟩;have:j=0:=by simp at hj;exact hj
  subst this;exact⟨_,rfl,hc 0 _ rfl⟩
theorem EH {G:Γ}(h:lD G t J K=true)(hM:VR Z J):Im M Z J (Ev.lD t (G.ty t)) K:=by
 unfold Ae.lD opt at h;split at h;case h_2=>cases h
 rename_i l hl;unfold E9 at hl;split at hl;·cases hl
 rename_i ty hty;split at hl;case h_2=>cases hl
 rename_i l' cs h1 h2;split at hl;case h_2=>cases hl
 rename_i q;cases hl;obtain⟨m1,m2⟩:=qT hM.z0 q;have hz:∃ v,ty.zero=some v:=by unfold zeroV at h2;split at h2<;>first|exact⟨_,by assumption⟩|cases h2
 obtain⟨v,hv⟩:=hz;have e:Ev.lD t (G.ty t)=Ev.BK t (some v):=by funext id;simp only[Ev.lD,hty,hv]
 rw[e];exact Km (vu hv h2 m1 m2) h
theorem Dk {size off:Nat}(hc:VC Z c v w)(hw:w=size)(ho:off+w<=n):∃ tr',pI size v n tr off=some tr'/\∀ i,i<n->cell n pat tr' i=if off<=i/\i<off+w then vc v (i - off) else cell n pat tr i:=by
 have e0:Nat.ble (Nat.add off size) n=true:=aH (by show off+size<=n;omega);rcases hc.kind with⟨pat',tr',rfl⟩|⟨rfl,hs⟩
 .obtain⟨t,ht⟩:=pn (off:=off) w 0 tr fun j _ hj=>let ⟨x,a,_⟩:=hc.get j (by omega);⟨x,a⟩;obtain⟨g1,g2⟩:=lS ht;refine⟨t,?_,fun i hi=>?_⟩;·simp only[pI,e0];rw[(T.beq_true).2 hw];exact ht
  .split;·rename_i q;obtain⟨x,x1,x2⟩:=g1 (i - off) (by omega) (by omega);rw[show off+(i - off)=i by omega] at x2;show _=cell w pat' tr' (i - off);rw[x1];exact gC hi x2
   .exact gX (g2 i (by omega))
 .refine⟨tr.put off (some v),?_,fun i hi=>?_⟩;·have:Nat.beq size 1=true:=(T.beq_true).2 hw.symm;cases v<;>first|(simp only[pI,e0,this];done)|(simp[V.scalar] at hs)
  .rw[B9 hi];by_cases q:i=off;·subst q;rw[if_pos rfl,if_pos (by omega),cJ,lM hs]
   .rw[if_neg q,if_neg (by omega)]
theorem EI (h0:Z.ints[0]?=some 0){a:A}(h:rG a=some c)(ha:AV Z a v):∃ w,VC Z c v w:=by
 unfold rG at h;split at h;·cases h;obtain⟨n,pat,tr,rfl,cr⟩:=ha.cr;exact⟨n,cr.len,fun j hj=>cr.get hj,.inl ⟨_,_,rfl⟩⟩
 .split at h
  .rename_i q;cases h;have hs:=qd q ha;refine⟨1,.cons (eZ q) .nil,fun j hj=>?_,.inr ⟨rfl,hs⟩⟩;have:j=0:=by omega
   subst this;exact⟨v,lM hs,.here q ha⟩
  .cases h
theorem zP (h0:Z.ints[0]?=some 0){pl:Nat->Option (Nat×Nat)}{e:Operand->Option A}{e':Operand->Option V}(he:∀ x a,e x=some a->∃ v,e' x=some v/\AV Z a v){n:Nat}{pat:List V}:∀ {parts:List (Nat×Operand)} {l l':List A} {tr:T V},EV pl e parts l=some l'->CR Z l n pat tr->∃ tr',qM pl e' n parts tr=some tr'/\CR Z l' n pat tr'
 |[],l,l',tr,h,cr=>by cases h;exact⟨tr,rfl,cr⟩
 |p :: rest,l,l',tr,h,cr=>by
  simp only[EV] at h;split at h;case h_2=>cases h
  rename_i off size a h1 h2;split at h;case h_2=>cases h
  rename_i c hc;split at h;case h_2=>cases h
  rename_i w hw;split at h;case h_2=>cases h
  rename_i q;rw[T.beq_true] at q;split at h;case h_2=>cases h
  rename_i l1 hl;obtain⟨v,v1,v2⟩:=he _ _ h2;obtain⟨w',vc1⟩:=EI h0 hc v2;have:=(BD h0 hw).fn vc1.len;subst this;have hle:off+w<=n:=by obtain⟨w2,p1,p2,_⟩:=BF h0 hl cr.len;rw[<- p1.fn vc1.len];exact p2
  obtain⟨tr',t1,t2⟩:=Dk (pat:=pat) (tr:=tr) vc1 q hle;obtain⟨tr2,f1,f2⟩:=zP h0 he h (KK h0 hl cr vc1 t2).1;exact⟨tr2,by simp only[qM,h1,v1,t1];exact f1,f2⟩
theorem Iu {G:Γ}{ty:TY}{l:List A}(hl:E9 G t=some l)(hty:G.ty t=some ty)(h0:Z.ints[0]?=some 0)(hv:ty.zero=some (.agg n pat tr)):CR Z l n pat tr:=by
 unfold E9 at hl;rw[hty] at hl;simp only at hl;split at hl;case h_2=>cases hl
 rename_i l' cs h1 h2;split at hl;case h_2=>cases hl
 rename_i q;cases hl;obtain⟨m1,m2⟩:=qT (Z:=Z) h0 q;have hn:cs.length=n:=by unfold zeroV at h2;rw[hv] at h2;exact(eP h2).1
 subst hn;exact(vu hv h2 m1 m2).cr
theorem EJ {G:Γ}{parts:List (Nat×Operand)}{a:A}(h:Fa G t J.eval parts=some a)(hM:Mem M fr Z J st):∃ v,qv G (G.ty t) st.env.get parts=some v/\AV Z a v:=by
 unfold Fa at h;split at h;case h_2=>cases h
 rename_i ty hty;split at h;case h_2=>cases h
 rename_i q;simp only[ae] at q;split at h;case h_2=>cases h
 rename_i z hz;split at h;case h_2=>cases h
 rename_i l hl;cases h;have key:∃ n pat tr,ty.zero=some (.agg n pat tr):=by
  have q1:=q.1;unfold isAgg at q1;split at q1;·rename_i n pat tr e;exact⟨n,pat,tr,e⟩
  .cases q1
 obtain⟨n,pat,tr,hzero⟩:=key;obtain⟨tr',f1,f2⟩:=zP hM.vr.z0 (e':=st.env.get) (fun x a ha=>eS hM ha) hl (Iu hz hty hM.vr.z0 hzero);exact⟨.agg n pat tr',by rw[hty];simp only[qv,hzero,q.2,f1],f2.ag⟩
theorem Iv {z:List V}{ks:List EK}(h:xz z=some ks):ks.length=z.length/\∀ (i:Nat) (c:V),z[i]?=some c->∃ k,ks[i]?=some k/\KV Z k c:=by
 obtain⟨a,b⟩:=fQ h;refine⟨a,fun i c hc=>?_⟩;have hi:=(ai.1 hc).1;have hk:=ah (l:=ks) (i:=i) (by omega);have:=b i c _ hc hk;split at this;·refine⟨_,hk,?_⟩;rw[<- bP this];exact .cst _
 .cases this
theorem jE {z:List V}(hz:0<z.length){i:Nat}(hi:i<n):cell n z .leaf i=z[i % z.length]?:=by
 unfold cell;rw[show Nat.blt i n=true from aH hi];simp only[T.eR,yH,jb];by_cases q:i<z.length;·rw[ah q,bS q,ah q]
 .rw[dc (by omega)];rfl
theorem vv {G:Γ}{ty:Option TY}{x y:A}(h:fW G ty x y J K=true)(hM:VR Z J){u:V}(hx:AV Z x v)(hy:AV Z y u):Im M Z J (Ev.fW G ty (some v) (some u)) K:=by
 unfold Ae.fW at h;split at h;case h_2=>cases h
 rename_i ty l c h1 h2;obtain⟨z1,rfl,n1⟩:=kQ hM.z0 (k:=l.1) (e:=l.2) h1 hx;obtain⟨z2,rfl,n2⟩:=kQ hM.z0 (k:=c.1) (e:=c.2) h2 hy;split at h;case h_2=>cases h
 rename_i elem hd;split at h;case h_2=>cases h
 rename_i te hte;unfold opt at h;split at h;case h_2=>cases h
 rename_i z hz;dsimp only at h;split at h;case h_2=>cases h
 rename_i ks hks;split at h;case h_2=>cases h
 rename_i q;simp only[ae,T.beq_true] at q;have q1:=eV hM.zr hM.z0 q.1.1.1.1.1 (eO hM.z0 _) n1;have q2:=eV hM.zr hM.z0 q.1.1.1.1.2 n1 n2;have q3:=eV hM.zr hM.z0 q.1.1.1.2 n2 (eO hM.z0 _);have q4:0<te.size:=az q.1.2;obtain⟨a,rfl⟩:=cj q1;obtain⟨b,rfl⟩:=cj (show 0<=z2 by omega);obtain⟨k1,k2⟩:=Iv (Z:=Z) hks;have rv:tS Z ks b (b * te.size) z .leaf:=by refine⟨by rw[k1,q.2,aY],fun i hi=>?_⟩;have hm:=dD i (show 0<z.length by omega);have hc:=ah hm;obtain⟨k,a1,a2⟩:=k2 _ _ hc;exact⟨_,k,by rw[jE (by omega) hi];exact hc,by rw[k1];exact a1,a2⟩
 refine⟨_,_,.cells (some elem) (Nat.mul b te.size) z .leaf,fun id=>.slice id 0 a (.known b),h,fun id=>?_,fun Z' id l1 l2=>.sl l2 ⟨0,(fun q=>absurd rfl q),rfl⟩ (n1.mono l1) (.kn (n2.mono l1)),fun Z' b hle=>.cl ((rv.cr n2).mono hle)⟩;show Ev.fW G (some ty) (some (.int l.1 (Int.ofNat a))) (some (.int c.1 (Int.ofNat b))) id=_;simp only[Ev.fW,hd,hte,hz];rw[show(Nat.ble a b&&Nat.ble b 100000&&Nat.ble te.size 100000)=true by rw[aH (by omega),aH (by omega),q.1.1.2];rfl]
theorem oZ {α:Type}{l:List α}(hl:0<l.length):∀ {m i:Nat},i<m * l.length->(rep m l)[i]?=l[i % l.length]?
 |0,i,h=>by omega
 |m+1,i,h=>by
  simp only[rep];rw[aG];split;·rename_i q;rw[bS q]
  .rename_i q;rw[bH,dS] at h;rw[oZ hl (by omega)];congr 1
   conv=>rhs;rw[show i=(i - l.length)+l.length by omega]
   rw[Nat.add_mod_right]
theorem lC {α:Type}{l:List α}:∀ {m:Nat},(rep m l).length=m * l.length
 |0=>by simp[rep]
 |m+1=>by simp only[rep,bt,lC (m:=m)];rw[bH];omega
theorem tU {G:Γ}{ty:Option TY}{len:Nat}{parts:List (Nat×Operand)}(h:fD G ty len J.eval parts J K=true)(hM:Mem M fr Z J st):Im M Z J (Ev.fD G ty len st.env.get parts) K:=by
 unfold Ae.fD at h;split at h;case h_2=>cases h
 rename_i ty;split at h;case h_2=>cases h
 rename_i elem hd;split at h;case h_2=>cases h
 rename_i te hte;unfold opt at h;split at h;case h_2=>cases h
 rename_i z hz;dsimp only at h;split at h;case h_2=>cases h
 rename_i q;simp only[ae,T.beq_true,bz] at q;have q4:0<te.size:=az q.2;split at h;case h_2=>cases h
 rename_i l hl;have hat:∀ (l:List V),(∀ v,v∈l->plain (.k v)=true)->∀ (i:Nat) (v:V),l[i]?=some v->CA Z (l.map A.k) i v:=fun l=>by
  induction l with
  |nil=>intro _ i v h;simp at h
  |cons w l ih=>
   intro hp i v h;cases i with
   |zero=>simp at h;subst h;exact .here (hp _ (by simp)) (.k _)
   |succ i=>have:=CA.skip (a:=A.k w) (w:=1) (.one fun _ _ _ e=>nomatch e) (ih (fun v hv=>hp v (by simp[hv])) i v (by simpa using h));rw[bp] at this;exact this
 have hmap:∀ m:Nat,rep m (z.map A.k)=(rep m z).map A.k:=fun m=>by
  induction m with
  |zero=>rfl
  |succ m ih=>simp only[rep,ih,cP]
 have hmem:∀ (m:Nat) (v:V),v∈rep m z->v∈z:=fun m=>by
  induction m with
  |zero=>intro v h;simp[rep] at h
  |succ m ih=>intro v h;simp only[rep,aK] at h;exact h.elim id (ih v)
 have hpl:∀ v,v∈rep len z->plain (.k v)=true:=fun v hv=>q.1.1.1 v (hmem _ _ hv);have hlen:(rep len z).length=len * te.size:=by rw[lC,q.1.2]
 have cr0:CR Z (rep len (z.map A.k)) (len * te.size) z .leaf:=by
  rw[hmap];refine⟨?_,fun i hi=>?_,fun i c hc=>?_⟩
  .have:=gp.plain (Z:=Z) (l:=(rep len z).map A.k) fun a ha=>by
    obtain⟨v,hv,rfl⟩:=aJ.1 ha;exact hpl v hv
   rw[cM,hlen] at this;exact this
  .rw[jE (by omega) hi,ah (dD _ (by omega))];rfl
  .have hi:=eT hc;rw[jE (by omega) hi] at hc;exact hat _ hpl i c (by rw[oZ (by omega) (by rw[q.1.2];exact hi)];exact hc)
 obtain⟨tr',f1,f2⟩:=zP hM.vr.z0 (e':=st.env.get) (fun x a ha=>eS hM ha) hl cr0;have f1':qM (fun i=>some (Nat.mul i te.size,te.size)) st.env.get (Nat.mul len te.size) parts .leaf=some tr':=f1;have fin:∀ (l:List A),CR Z l (len * te.size) z tr'->K (.sl J.nb (uv 0) (0,Int.ofNat len) (.kn (0,Int.ofNat len))) (J.add (.cl false (some elem) l))=true->Im M Z J (Ev.fD G (some ty) len st.env.get parts) K:=fun l cr hK=>by have hn:Num Z (0,Int.ofNat len) len:=eO hM.vr.z0 _;refine⟨_,_,.cells (some elem) (Nat.mul len te.size) z tr',fun id=>.slice id 0 len (.known len),hK,fun id=>?_,fun Z' id l1 l2=>.sl l2 ⟨0,(fun q=>absurd rfl q),rfl⟩ (hn.mono l1) (.kn (hn.mono l1)),fun Z' b hle=>.cl (cr.mono hle)⟩;simp only[Ev.fD,hd,hte,hz,q.1.1.2,f1']
 split at h;·exact fin l f2 h
 .split at h;case h_2=>cases h
  rename_i r hr;obtain⟨_,cnt,hN,rv⟩:=iD hM.vr.zr hM.vr.z0 (ks:=r.1) (N:=r.2) hr f2;exact fin _ (rv.cr hN) h
end
end Go.Ae

/- The checker is sound: maps, operations, matching. -/
import Derived.Test.YtboaighhnghpdaaGreatDoorE
import Derived.Test.YtboaighhnghpdaaGreatDoorC
set_option linter.unusedVariables false
set_option linter.unusedSimpArgs false
set_option maxHeartbeats 1000000
namespace Go.Ae
open Go.Ev
variable {a k:A}{b cl:Nat}{v x y w u:V}{t kt et:TypeId}{ty:TY}{Z:NV}{ks:List EK}{ag:Bool}{es:List (V×V×Nat)}{h:H}
theorem eU {α:Type}{x:Option α}{f:α->Bool}(h:opt x f=true):∃ a,x=some a/\f a=true:=by
 unfold opt at h;split at h;·exact⟨_,rfl,h⟩
 .cases h
section
variable {Z:NV}{z:ZN}(hz:ZR Z z)(h0:Z.ints[0]?=some 0)
theorem Pa (hz:ZR Z z)(h0:Z.ints[0]?=some 0){a b:EK}(h:R9 z a b=true)(hv:KV Z a v):KV Z b v:=by
 unfold R9 at h;split at h
 .rename_i q;split at q;·have:=nu q;subst this;exact hv
  .cases q
 .split at h
  .rename_i k lo hi k' lo' hi' hk _;simp only[ae,decide_eq_true_eq] at h;obtain⟨⟨rfl,h2⟩,h3⟩:=h;cases lE h0 hz hk hv with
   |int r l u=>
    refine .int r (fun e he=>?_) fun e he=>?_
    .subst he;unfold DU at h2;simp only at h2;split at h2;·obtain⟨y,y1,y2⟩:=l _ rfl;obtain⟨w,w1,w2⟩:=yp hz h0 h2 y1;exact⟨w,w1,by omega⟩
     .cases h2
    .subst he;unfold DV at h3;simp only at h3;split at h3;·obtain⟨y,y1,y2⟩:=u _ rfl;obtain⟨w,w1,w2⟩:=mU hz h0 h3 y1;exact⟨w,w1,by omega⟩
     .cases h3
  .rename_i hk _;exact lE h0 hz hk hv
  .rename_i hk _;exact lE h0 hz hk hv
  .rename_i hk _;cases lE h0 hz hk hv with
   |stb q=>exact .stb (bF q (az h))
  .rename_i hk _;cases lE h0 hz hk hv with
   |stb q=>exact .str _
  .cases h
theorem sk (hz:ZR Z z)(h0:Z.ints[0]?=some 0):∀ {l r:List EK},wz z l r=true->r.length=l.length/\∀ (i:Nat) (k:EK),l[i]?=some k->∃ k',r[i]?=some k'/\∀ v,KV Z k v->KV Z k' v
 |[],r,h=>by
  cases r with
  |nil=>exact⟨rfl,fun i k h=>by simp at h⟩
  |cons=>cases h
 |k :: l,r,h=>by
  cases r with
  |nil=>cases h
  |cons k' r=>
   simp only[wz,ae] at h;obtain⟨l1,l2⟩:=sk hz h0 h.2;refine⟨by simp[l1],fun i k1 hk=>?_⟩;cases i with
   |zero=>simp at hk;subst hk;exact⟨k',rfl,fun v=>Pa hz h0 h.1⟩
   |succ i=>obtain⟨k2,a,b⟩:=l2 i k1 (by simpa using hk);exact⟨k2,by simpa using a,b⟩
end
theorem Ck {G:Γ}(hty:G.ty t=some ty){k:EK}(h:xO ty k=true)(hx:KV Z k x)(hy:KV Z k y)(d:Nat):eqO G (d+1) t x y=some (eqS x y):=by
 unfold xO at h;simp only[eqO,hty];split at h;·rename_i hd;rw[hd];cases hx;cases hy;rfl
 .rename_i hd;rw[hd];cases hx;cases hy;simp only[decide_true,eqS,eJ]
 .rename_i hd;rw[hd];cases hx;cases hy;rfl
 .cases h
theorem MH {G:Γ}(hty:G.ty t=some ty){k:EK}(h:xO ty k=true)(hx:KV Z k x)(hy:KV Z k y)(d:Nat):∃ r,eqO G (d+1) t x y=some r/\(r=true->eqS x y=true):=⟨_,Ck hty h hx hy d,id⟩
theorem pz {G:Γ}{Z:NV}{n n':Nat}{pat pat':List V}{tr tr':T V}{d:Nat}:∀ {fs:List Field} {ks:List EK} {j:Nat},nl G fs ks j=true->(∀ i,i<ks.length->∃ c k,cell n pat tr (j+i)=some c/\ks[i]?=some k/\KV Z k c)->(∀ i,i<ks.length->∃ c k,cell n' pat' tr' (j+i)=some c/\ks[i]?=some k/\KV Z k c) ->
  ∃ l l',fC n pat tr j ks.length=some l/\fC n' pat' tr' j ks.length=some l'/\eqFields G (eqO G (d+1)) n pat tr n' pat' tr' fs=some (EC l l')
 |[],[],j,_,_,_=>⟨[],[],rfl,rfl,rfl⟩
 |[],_ :: _,j,h,_,_=>by cases h
 |_ :: _,[],j,h,_,_=>by cases h
 |f :: fs,k :: ks,j,h,hx,hy=>by
  simp only[nl,ae,bw,T.beq_true] at h;obtain⟨⟨⟨h1,h2⟩,h3⟩,h4⟩:=h;split at h1;case h_2=>cases h1
  rename_i ft hft;simp only[ae,bw] at h1;obtain⟨ha,hs⟩:=h1;obtain⟨c,k1,c1,c2,c3⟩:=hx 0 (by simp);obtain⟨e,k2,e1,e2,e3⟩:=hy 0 (by simp);simp at c2 e2;subst c2;subst e2;have r1:=Ck hft hs c3 e3 d;have shift:∀ {n:Nat} {pat:List V} {tr:T V},(∀ i,i<(k :: ks).length->∃ c k',cell n pat tr (j+i)=some c/\(k :: ks)[i]?=some k'/\KV Z k' c)->∀ i,i<ks.length->∃ c k',cell n pat tr (Nat.succ j+i)=some c/\ks[i]?=some k'/\KV Z k' c:=fun q i hi=>by obtain⟨c,k',a,b,w⟩:=q (i+1) (by simp;omega);exact⟨c,k',by rw[show Nat.succ j+i=j+(i+1) by omega];exact a,by simpa using b,w⟩
  obtain⟨l,l',w1,w2,w3⟩:=pz (d:=d) h4 (shift hx) (shift hy);have c1:cell n pat tr j=some c:=by simpa using c1
  have e1:cell n' pat' tr' j=some e:=by simpa using e1
  refine⟨c :: l,e :: l',by simp only[aU,fC,c1,w1],by simp only[aU,fC,e1,w2],?_⟩;simp only[eqFields,h2,hft,ha,Ev.partAt,h3,c1,e1,r1,EC];cases eqS c e with
  |false=>rfl
  |true=>rw[eJ];exact w3
theorem FY {G:Γ}{n n':Nat}{pat pat':List V}{tr tr':T V}{d:Nat}{fs:List Field}{j:Nat}(h:nl G fs ks j=true)(hx:∀ i,i<ks.length->∃ c k,cell n pat tr (j+i)=some c/\ks[i]?=some k/\KV Z k c)(hy:∀ i,i<ks.length->∃ c k,cell n' pat' tr' (j+i)=some c/\ks[i]?=some k/\KV Z k c):
  ∃ r,eqFields G (eqO G (d+1)) n pat tr n' pat' tr' fs=some r/\(r=true->∃ l l',fC n pat tr j ks.length=some l/\fC n' pat' tr' j ks.length=some l'/\EC l l'=true):=
 let ⟨l,l',a,b,c⟩:=pz (d:=d) h hx hy
 ⟨_,c,fun q=>⟨l,l',a,b,q⟩⟩
theorem sr {G:Γ}(h:tY G t ag ks=true)(hx:KsV Z ag ks x):mN G t x=true/\∀ y,KsV Z ag ks y->∃ r,eqO G 8 t x y=some r/\(r=true->fN x y=true):=by
 unfold tY at h;split at h;case h_2=>cases h
 rename_i ty hp hty;split at h
 .split at h;case h_2=>cases h
  rename_i k;obtain⟨k1,e1,hx⟩:=hx;cases e1;refine⟨?_,fun y hy=>?_⟩;·unfold mN;rw[hp,hty];simp only;unfold xO at h;split at h<;>first|cases h;done|(rename_i hd;rw[hd])
  .obtain⟨k2,e2,hy⟩:=hy;cases e2;obtain⟨r,r1,r2⟩:=MH (d:=7) hty h hx hy;refine⟨r,r1,fun q=>?_⟩;have:=r2 q;unfold fN;split;·simp[eqS] at this
   .exact this
 .split at h;case h_2=>cases h
  rename_i fs hd;simp only[ae,T.beq_true] at h;obtain⟨⟨h1,h2⟩,h3⟩:=h;obtain⟨n,pat,tr,rfl,hn,hc⟩:=hx;refine⟨?_,fun y hy=>?_⟩;·unfold mN;rw[hp,hty];simp only[hd];rw[hn,h2];exact(T.beq_true).2 rfl
  .obtain⟨n',pat',tr',rfl,hn',hc'⟩:=hy;obtain⟨r,r1,r2⟩:=FY (d:=6) (n:=n) (pat:=pat) (tr:=tr) (n':=n') (pat':=pat') (tr':=tr') (Z:=Z) h3 (fun i hi=>by rw[aI];exact hc i (by omega)) (fun i hi=>by rw[aI];exact hc' i (by omega));refine⟨r,?_,fun q=>?_⟩;·unfold eqO;simp only[hty,hd,h1];exact r1
   .obtain⟨l,l',w1,w2,w3⟩:=r2 q;unfold fN;simp only;have w1:fC n pat tr 0 n=some l:=by have q:=w1;rw[<- hn] at q;exact q
    have w2:fC n' pat' tr' 0 n'=some l':=by have q:=w2;rw[<- hn'] at q;exact q
    rw[show Nat.beq n n'=true from(T.beq_true).2 (hn.trans hn'.symm),w1,w2];exact w3
theorem MI {G:Γ}(h:tY G t true ks=true)(hx:KsV Z true ks x)(hy:KsV Z true ks y):eqO G 8 t x y=some (fN x y):=by
 unfold tY at h;split at h;case h_2=>cases h
 rename_i ty hp hty;simp only at h;split at h;case h_2=>cases h
 rename_i fs hd;simp only[ae,T.beq_true] at h;obtain⟨⟨h1,h2⟩,h3⟩:=h;obtain⟨n,pat,tr,rfl,hn,hc⟩:=hx;obtain⟨n',pat',tr',rfl,hn',hc'⟩:=hy;obtain⟨l,l',w1,w2,w3⟩:=pz (d:=6) (n:=n) (pat:=pat) (tr:=tr) (n':=n') (pat':=pat') (tr':=tr') (Z:=Z) h3 (fun i hi=>by rw[aI];exact hc i (by omega)) (fun i hi=>by rw[aI];exact hc' i (by omega));have e:fN (.agg n pat tr) (.agg n' pat' tr')=EC l l':=by unfold fN;simp only;rw[show Nat.beq n n'=true from(T.beq_true).2 (hn.trans hn'.symm),show fC n pat tr 0 n=some l by rw[<- w1,<- hn],show fC n' pat' tr' 0 n'=some l' by rw[<- w2,<- hn']]
 rw[e];unfold eqO;simp only[hty,hd,h1];exact w3
theorem FZ {G:Γ}{t:TypeId}{ks:List EK}(h:tY G t true ks=true){Z:NV}{x:V}(hx:KsV Z true ks x):∀ (es:List (V×V×Nat)) (i:Nat),(∀ e,e∈es->KsV Z true ks e.1)->gu G t x es i=some (gH x es i)
 |[],i,_=>rfl
 |e :: es,i,he=>by
  have r1:=MI h hx (he e (by simp));simp only[gu,gH,r1];cases fN x e.1 with
  |true=>rfl
  |false=>exact FZ h hx es (Nat.succ i) fun e' h'=>he e' (aB _ h')
theorem jI {x:V}:∀ {es:List (V×V×Nat)} {i j:Nat} {y:V×V×Nat},gH x es i=some (j,y)->i<=j/\es[j - i]?=some y/\fN x y.1=true
 |[],_,_,_,h=>by cases h
 |e :: es,i,j,y,h=>by
  unfold gH at h;split at h;·rename_i q;cases h;exact⟨aF _,by rw[cJ];rfl,q⟩
  .obtain⟨a,b,c⟩:=jI h;have a:i+1<=j:=a;refine⟨by omega,?_,c⟩;have b:es[j - (i+1)]?=some y:=b;rw[show j - i=j - (i+1)+1 by omega];exact b
theorem nv {x w:V}(h:∀ y,fN x y=fN w y):∀ (es:List (V×V×Nat)) (i:Nat),gH x es i=gH w es i
 |[],_=>rfl
 |e :: es,i=>by unfold gH;rw[h e.1,nv h es]
theorem xV {Z:NV}:∀ {l:List A} {i:Nat} {c:V},CA Z l i c->(∀ a,a∈l->∃ k e,a=.i k e)->∃ k e z,l[i]?=some (.i k e)/\Num Z e z/\c=.int k z
 |a :: l,i,c,h,hl=>by
  obtain⟨k,e,ea⟩:=hl a (by simp);generalize hg:a :: l=g at h;cases h with
  |here p q=>
   cases hg;subst ea;cases q with
   |i n=>exact⟨k,e,_,rfl,n,rfl⟩
  |@skip _ _ w j _ q r=>
   cases hg;subst ea;cases q with
   |one _=>obtain⟨k',e',z,x1,x2,x3⟩:=xV r fun a ha=>hl a (by simp[ha]);exact⟨k',e',z,by rw[bp];exact x1,x2,x3⟩
  |row=>cases hg;cases ea
  |foc=>cases hg;cases ea
theorem KO {Z:NV}{z:ZN}(hz:ZR Z z)(h0:Z.ints[0]?=some 0):∀ {l r:List A},Oi z l r=true->l.length=r.length/\∀ (i:Nat) (a:A),l[i]?=some a->∃ k e e',a=.i k e/\r[i]?=some (.i k e')/\∀ x y,Num Z e x->Num Z e' y->x=y
 |[],[],_=>⟨rfl,fun i a h=>by simp at h⟩
 |a :: l,b :: r,h=>by
  simp only[Oi,ae] at h;obtain⟨h1,h3⟩:=h;unfold TW at h1;split at h1;case h_2=>cases h1
  rename_i k e k' e';simp only[ae,decide_eq_true_eq] at h1;obtain⟨rfl,h2⟩:=h1;obtain⟨x1,x2⟩:=KO hz h0 h3;refine⟨by simp[x1],fun i a hi=>?_⟩;cases i with
  |zero=>simp at hi;subst hi;exact⟨_,_,_,rfl,rfl,fun x y hx hy=>jB hz h0 h2 hx hy⟩
  |succ i=>obtain⟨k1,f,f',y1,y2,y3⟩:=x2 i a (by simpa using hi);exact⟨k1,f,f',y1,by simpa using y2,y3⟩
 |[],_ :: _,h=>by simp[Oi] at h
 |_ :: _,[],h=>by simp[Oi] at h
theorem rh {Z:NV}:∀ {l:List A} {n:Nat},gp Z l n->(∀ a,a∈l->∃ k e,a=.i k e)->n=l.length
 |[],_,h,_=>by cases h;rfl
 |a :: l,_,.cons q r,hl=>by
  obtain⟨k,e,ea⟩:=hl a (by simp);subst ea;cases q with
  |one _=>rw[rh r fun a ha=>hl a (by simp[ha])];simp;omega
theorem qf {n n':Nat}{pat pat':List V}{tr tr':T V}:∀ (m j:Nat),(∀ i,i<m->cell n pat tr (j+i)=cell n' pat' tr' (j+i))->fC n pat tr j m=fC n' pat' tr' j m
 |0,_,_=>rfl
 |m+1,j,h=>by
  have h0:cell n pat tr j=cell n' pat' tr' j:=h 0 (by omega);have ih:=qf (n:=n) (n':=n') (pat:=pat) (pat':=pat') (tr:=tr) (tr':=tr') m (Nat.succ j) fun i hi=>by have:=h (i+1) (by omega);rw[show Nat.succ j+i=j+(i+1) by omega];exact this
  simp only[fC,h0,ih]
theorem F0 {z:ZN}(hz:ZR Z z)(h0:Z.ints[0]?=some 0){l:List A}(h:Mv z l a=true){w':V}(hw:AV Z (.ag l) w)(hw':AV Z a w'):(∀ y,fN w' y=fN w y)/\AV Z (.ag l) w'/\∀ {ks:List EK},KsV Z true ks w->KsV Z true ks w':=by
 unfold Mv at h;split at h;case h_2=>cases h
 rename_i r;obtain⟨k1,k2⟩:=KO hz h0 h;have il:∀ a,a∈l->∃ k e,a=.i k e:=fun a ha=>by obtain⟨i,hi⟩:=aX.1 ha;obtain⟨k,e,_,q,_⟩:=k2 i a hi;exact⟨k,e,q⟩
 have ir:∀ a,a∈r->∃ k e,a=.i k e:=fun a ha=>by obtain⟨i,hi⟩:=aX.1 ha;have hlt:=(ai.1 hi).1;obtain⟨k,e,e',q1,q2,_⟩:=k2 i _ (ah (l:=l) (by omega));rw[hi] at q2;cases q2;exact⟨k,e',rfl⟩
 obtain⟨n,pat,tr,rfl,c1⟩:=hw.cr;obtain⟨n',pat',tr',rfl,c2⟩:=hw'.cr;have e1:=rh c1.len il;have e2:=rh c2.len ir;have en:n'=n:=by omega
 subst en;have ce:∀ i,i<n'->cell n' pat tr i=cell n' pat' tr' i:=fun i hi=>by obtain⟨x,x1,x2⟩:=c1.get hi;obtain⟨y,y1,y2⟩:=c2.get hi;obtain⟨k,e,z1,a1,a2,a3⟩:=xV x2 il;obtain⟨k',e',z2,b1,b2,b3⟩:=xV y2 ir;obtain⟨k3,f,f',q1,q2,q3⟩:=k2 i _ a1;cases q1;rw[b1] at q2;cases q2;rw[x1,y1,a3,b3,q3 _ _ a2 b2]
 have eg:fC n' pat tr 0 n'=fC n' pat' tr' 0 n':=qf n' 0 fun i hi=>by rw[aI];exact ce i hi
 refine⟨fun y=>?_,.ag c1.len (fun i hi=>by rw[<- ce i hi];exact c1.all i hi) fun i c hc=>?_,fun {ks} q=>?_⟩;·cases y<;>simp only[fN,eg,eqS]
 .have hi:=eT hc;exact c1.at' i c (by rw[ce i hi];exact hc)
 .obtain⟨m,p,t,x,y,z⟩:=q;cases x;exact⟨_,_,_,rfl,y,fun i hi=>by rw[<- ce i hi];exact z i hi⟩
theorem jq {G:Γ}{t:TypeId}{ag:Bool}{ks:List EK}(h:tY G t ag ks=true){Z:NV}{x:V}(hx:KsV Z ag ks x):∀ (es:List (V×V×Nat)) (i:Nat),(∀ e,e∈es->KsV Z ag ks e.1)->∃ r,gu G t x es i=some r/\∀ j y,r=some (j,y)->fN x y.1=true/\y∈es
 |[],i,_=>⟨none,rfl,fun j y h=>nomatch h⟩
 |e :: es,i,he=>by
  obtain⟨r,r1,r2⟩:=(sr h hx).2 e.1 (he e (by simp));cases r with
  |true=>exact⟨some (i,e),by simp only[gu,r1],fun j y q=>by cases q;exact⟨r2 rfl,by simp⟩⟩
  |false=>obtain⟨r',q1,q2⟩:=jq h hx es (Nat.succ i) fun e' h'=>he e' (aB _ h');exact⟨r',by simp only[gu,r1,q1],fun j y q=>⟨(q2 j y q).1,aB _ (q2 j y q).2⟩⟩
theorem KsV.imp {ks':List EK}(hl:ks'.length=ks.length)(h:∀ (i:Nat) (k:EK),ks[i]?=some k->∃ k',ks'[i]?=some k'/\∀ v,KV Z k v->KV Z k' v)(hv:KsV Z ag ks v):KsV Z ag ks' v:=by
 cases ag with
 |false=>
  obtain⟨k,rfl,hv⟩:=hv;obtain⟨k',a,b⟩:=h 0 k rfl;cases ks' with
  |nil=>simp at hl
  |cons x l=>
   cases l with
   |nil=>simp at a;subst a;exact⟨x,rfl,b v hv⟩
   |cons=>simp at hl
 |true=>obtain⟨n,pat,tr,rfl,hn,hc⟩:=hv;refine⟨n,pat,tr,rfl,hn.trans hl.symm,fun i hi=>?_⟩;obtain⟨c,k,a,b,w⟩:=hc i hi;obtain⟨k',x,y⟩:=h i k b;exact⟨c,k',a,x,y c w⟩
section
variable {Z:NV}{z:ZN}(hz:ZR Z z)(h0:Z.ints[0]?=some 0)
theorem vW (hz:ZR Z z)(h0:Z.ints[0]?=some 0)(h:Dx z ag a=some ks)(ha:AV Z a v):KsV Z ag ks v:=by
 unfold Dx at h;split at h
 .split at h;·rename_i k hk;cases h;exact⟨_,rfl,BL hz h0 hk ha⟩
  .cases h
 .split at h;case h_2=>cases h
  rename_i l;split at h;case h_2=>cases h
  rename_i hp;have hp:∀ a,a∈l->plain a=true:=fun a ha=>bz.1 hp a ha;obtain⟨n,pat,tr,rfl,cr⟩:=ha.cr;have hn:n=l.length:=cr.len.fn (gp.plain hp);have hk:∀ {l:List A} {ks:List EK},eX (pY z) l=some ks->ks.length=l.length/\∀ (i:Nat) (a:A),l[i]?=some a->∃ k,ks[i]?=some k/\pY z a=some k:=fun {l}=>by
   induction l with
   |nil=>intro ks h;cases h;exact⟨rfl,fun i a h=>by simp at h⟩
   |cons x l ih=>
    intro ks h;simp only[eX] at h;split at h;case h_2=>cases h
    rename_i y hy;split at h
    .rename_i r hr;cases h;obtain⟨i1,i2⟩:=ih hr;refine⟨by simp[i1],fun i a ha=>?_⟩;cases i with
     |zero=>simp at ha;subst ha;exact⟨y,rfl,hy⟩
     |succ i=>obtain⟨k,a1,a2⟩:=i2 i a (by simpa using ha);exact⟨k,by simpa using a1,a2⟩
    .cases h
  obtain⟨k1,k2⟩:=hk h;refine⟨n,pat,tr,rfl,by rw[hn,k1],fun i hi=>?_⟩;obtain⟨c,c1,c2⟩:=cr.get hi;obtain⟨a,a1,a2⟩:=CA.un hp c2;obtain⟨k,x,y⟩:=k2 i a a1;exact⟨c,k,c1,x,BL hz h0 y a2⟩
theorem xW (hz:ZR Z z)(h0:Z.ints[0]?=some 0)(h:Oh z ag a ks=true)(ha:AV Z a v):KsV Z ag ks v:=by
 unfold Oh at h;split at h;·rename_i l hl;obtain⟨q1,q2⟩:=sk hz h0 h;exact(vW hz h0 hl ha).imp q1 q2
 .cases h
end
theorem F1 (h:I6 ty=some a)(Z:NV):∃ v,ty.zero=some v/\AV Z a v:=by
 unfold I6 at h;split at h;case h_2=>cases h
 rename_i cs hcs;split at h;case h_2=>cases h
 rename_i hp;have hp:∀ a,a∈cs.map A.k->plain a=true:=fun a ha=>bz.1 hp a ha;have hl:gp Z (cs.map A.k) cs.length:=by have:=gp.plain (Z:=Z) hp;rwa [cM] at this
 split at h
 .rename_i n pat tr hz;cases h;have ca:∀ (l:List V),(∀ a,a∈l.map A.k->plain a=true)->∀ (i:Nat) (c:V),l[i]?=some c->CA Z (l.map A.k) i c:=fun l=>by
   induction l with
   |nil=>intro _ i c h;simp at h
   |cons x l ih=>
    intro hp i c hc;cases i with
    |zero=>simp at hc;subst hc;exact .here (hp _ (by simp)) (.k _)
    |succ i=>have w:WV Z (A.k x) 1:=.one fun _ _ _ e=>nomatch e;have:=CA.skip w (ih (fun a ha=>hp a (by simp only[aS,aq];exact .inr ha)) i c (by simpa using hc));rw[bp 1 i] at this;exact this
  have vc:=vu hz hcs hl (ca cs hp);refine⟨_,hz,?_⟩;have hn:n=cs.length:=by
   rcases vc.kind with⟨_,_,e⟩|⟨_,e⟩;·cases e;rfl
   .simp[V.scalar] at e
  subst hn;exact .ag hl vc.cr.all vc.cr.at'
 .rename_i v _ hz;cases h;exact⟨v,hz,.k v⟩
 .cases h
theorem Jh {ok b:Bool}(h:AV Z a v):AV Z (okR ok a b) (match ok with
  |true=>.tuple [v,.bool b]
  |false=>v):=by
 cases ok with
 |true=>exact .tp (.cons h (.cons (.k _) .nil))
 |false=>exact h
section
variable {M:TH}{fr:FR}{Z:NV}{J:AS}{st:St}{K:A->AS->Bool}
theorem An {G:Γ}{ty:Option TY}(h:vN G ty J K=true):Im M Z J (fun id=>some (.map [] 0,.map id)) K:=by
 unfold vN at h;split at h;case h_2=>cases h
 split at h;case h_2=>cases h
 split at h;case h_2=>cases h
 split at h;·exact⟨_,_,.map [] 0,fun id=>.map id,h,fun _=>rfl,fun Z' id _ q=>.m q,fun Z' b _=>.mx rfl .nil ⟨fun i e h=>by simp at h,rfl⟩⟩
 obtain⟨zk,_,h⟩:=eU h;obtain⟨kk,_,h⟩:=eU h;obtain⟨zv,_,h⟩:=eU h;exact⟨_,_,.map [] 0,fun id=>.map id,h,fun _=>rfl,fun Z' id _ q=>.m q,fun Z' b _=>.mp fun e he=>by simp at he⟩
theorem Mem.map (hM:Mem M fr Z J st){U s:Nat}{kk vk:List EK}{ka va:Bool}(hb:J.mem.get U=some (s,.mp kk ka vk va)):∃ b es cl,Z.blks[U]?=some b/\Z.objs[s]?=some [(b,.map es cl)]/\st.h.tr.get b=some (.map es cl)/\∀ e,e∈es->KsV Z ka kk e.1/\KsV Z va vk e.2.1/\e.2.2<cl:=by
 obtain⟨b,hp,x1,x2,x3,x4⟩:=hM.hr.at' _ _ _ hb;cases x3 with
 |mp h=>exact⟨b,_,_,x1,x2,(x4 _ (aE ..)).1,h⟩
theorem AVs.app {Z:NV}:∀ {a b:List A} {v w:List V},AVs Z a v->AVs Z b w->AVs Z (a++b) (v++w)
 |_,_,_,_,.nil,h=>h
 |_,_,_,_,.cons q r,h=>.cons q (AVs.app r h)
theorem Mem.RT (hM:Mem M fr Z J st){U s:Nat}{es:List (Int×A)}(hb:J.mem.get U=some (s,.mx es)):∃ b es' cl,Z.blks[U]?=some b/\Z.objs[s]?=some [(b,.map es' cl)]/\st.h.tr.get b=some (.map es' cl)/\es'.map (fun e=>e.1)=es.map (fun e=>V.int .i64 e.1)/\AVs Z (es.map Prod.snd) (es'.map fun e=>e.2.1)/\(∀ (i:Nat) (e:V×V×Nat),es'[i]?=some e->e.2.2=i)/\cl=es'.length:=by
 obtain⟨b,hp,x1,x2,x3,x4⟩:=hM.hr.at' _ _ _ hb;cases x3 with
 |mx h k m=>exact⟨b,_,_,x1,x2,(x4 _ (aE ..)).1,h,k,m⟩
theorem KP {G:Γ}(h:tY G kt false [.int .i64 none none]=true):(∀ n,mN G kt (.int .i64 n)=true)/\∀ n m,eqO G 8 kt (.int .i64 n) (.int .i64 m)=some (ieq n m):=by
 unfold tY at h;split at h;case h_2=>cases h
 rename_i ty hp hty;simp only at h;unfold xO at h;split at h<;>first|cases h;done|skip
 .rename_i q;cases q
 .rename_i hd _;refine⟨fun n=>?_,fun n m=>?_⟩;·unfold mN;rw[hp,hty];simp only;rw[hd]
  .simp only[eqO,hty];rw[hd];simp only[decide_true]
 .rename_i q;cases q
theorem xX {G:Γ}{kt:TypeId}(hG:∀ n m,eqO G 8 kt (.int .i64 n) (.int .i64 m)=some (ieq n m)){p:LE}{n:Int}{Zz:AS->Bool}:∀ {es:List (Int×A)} {es':List (V×V×Nat)} {J:AS} {i:Nat},FF p K Zz es J=true->VR Z J->Num Z p n->es'.map (fun e=>e.1)=es.map (fun e=>V.int .i64 e.1)->AVs Z (es.map Prod.snd) (es'.map fun e=>e.2.1) ->
  ∃ r,gu G kt (.int .i64 n) es' i=some r/\((r=none/\∃ J',Up Z J Z J'/\Zz J'=true)\/∃ j y a J',r=some (j,y)/\Up Z J Z J'/\AV Z a y.2.1/\K a J'=true)
 |[],es',J,i,h,hv,hn,hk,ha=>by
  have:es'=[]:=by simpa using hk
  subst this;exact⟨none,rfl,.inl ⟨rfl,J,.refl hv,h⟩⟩
 |e :: es,[],J,i,h,hv,hn,hk,ha=>by simp at hk
 |e :: es,e' :: es',J,i,h,hv,hn,hk,ha=>by
  simp only[aS,eB] at hk;simp only[aS] at ha;cases ha with
  |cons a1 a2=>
   obtain⟨J1,u1,k1⟩:=iu h hv (.eq hn (eO hv.z0 e.1));simp only[gu,hk.1,hG];by_cases q:n=e.1;·subst q;simp only[decide_true] at k1;rw[show ieq e.1 e.1=true from iT.2 rfl];exact⟨_,rfl,.inr ⟨i,e',e.2,J1,rfl,u1,a1,k1⟩⟩
   .simp only[q,decide_false] at k1;rw[show ieq n e.1=false by cases w:ieq n e.1 with
     |false=>rfl
     |true=>exact absurd (iT.1 w) q]
    obtain⟨r,r1,r2⟩:=xX hG (i:=Nat.succ i) k1 u1.vr hn hk.2 a2;refine⟨r,r1,?_⟩;rcases r2 with⟨r2,J',u,z⟩|⟨j,y,a,J',e1,u,a3,z⟩;·exact .inl ⟨r2,J',u1.trans u,z⟩
    .exact .inr ⟨j,y,a,J',e1,u1.trans u,a3,z⟩
theorem Cl {G:Γ}{kt:TypeId}(hG:∀ n m,eqO G 8 kt (.int .i64 n) (.int .i64 m)=some (ieq n m)){n:Int}:∀ {es:List (Int×A)} {es':List (V×V×Nat)} {i:Nat},I7 n es=false->es'.map (fun e=>e.1)=es.map (fun e=>V.int .i64 e.1)->gu G kt (.int .i64 n) es' i=some none
 |[],es',i,h,hk=>by
  have:es'=[]:=by simpa using hk
  subst this;rfl
 |e :: es,[],i,h,hk=>by simp at hk
 |e :: es,e' :: es',i,h,hk=>by
  simp only[aS,eB] at hk;simp only[I7] at h;simp only[gu,hk.1,hG];cases w:ieq n e.1 with
  |true=>rw[w] at h;cases h
  |false=>rw[w] at h;exact Cl hG h hk.2
theorem DE {G:Γ}{ty:Option TY}{x:A}{ok:Bool}(h:vO G ty x k ok J K=true)(hM:Mem M fr Z J st)(hx:AV Z x v)(hk:AV Z k w):∃ U b r,x=.m U/\Z.blks[U]?=some b/\(∀ h2:H,h2.tr.get b=st.h.tr.get b->iz G ty h2 (some v) (some w) ok=some r)/\Eff M fr Z st r st.h K:=by
 unfold vO at h;split at h;case h_2=>cases h
 rename_i ty;split at h;case h_2=>cases h
 rename_i kt et U hd;split at h;case h_3=>cases h
 case h_1=>
  rename_i s es te hb hte;split at h;case h_2=>cases h
  rename_i p h1 hp;obtain⟨g1,g2⟩:=KP h1;obtain⟨n,rfl,hn⟩:=kQ hM.vr.z0 hp hk;obtain⟨b,es',cl,x1,x2,x3,x4,x5,x6,x7⟩:=hM.RT hb;cases hx with
  |@m _ b' hx=>
   rw[x1] at hx;cases hx;obtain⟨r,r1,r2⟩:=xX g2 (i:=0) h hM.vr hn x4 x5;rcases r2 with⟨rfl,J',u,z⟩|⟨j,y,a,J',rfl,u,a3,z⟩
   .obtain⟨za,z1,z⟩:=eU z;obtain⟨zv,z2,z3⟩:=F1 z1 Z;refine⟨U,b,_,rfl,x1,fun hh e=>?_,Res.eff ⟨Z,J',_,u,Jh z3,z⟩ hM⟩;simp only[iz,hd,g1,e,x3,r1,hte,z2];cases ok<;>rfl
   .refine⟨U,b,_,rfl,x1,fun hh e=>?_,Res.eff ⟨Z,J',_,u,Jh a3,z⟩ hM⟩;simp only[iz,hd,g1,e,x3,r1,hte];cases ok<;>rfl
 rename_i s kk ka vk va te hb hte;simp only[ae] at h;obtain⟨⟨⟨h1,h2⟩,h3⟩,h4⟩:=h;obtain⟨b,es,cl,x1,x2,x3,x4⟩:=hM.map hb;cases hx with
 |@m _ b' hx=>
  rw[x1] at hx;cases hx;have hkw:=xW hM.vr.zr hM.vr.z0 h2 hk;obtain⟨r,r1,r2⟩:=jq h1 hkw es 0 fun e he=>(x4 e he).1;have hok:=(sr h1 hkw).1;cases r with
  |none=>obtain⟨za,z1,h3⟩:=eU h3;obtain⟨zv,z2,z3⟩:=F1 z1 Z;refine⟨U,b,_,rfl,x1,fun hh e=>?_,Res.eff (.now hM.vr (Jh z3) h3) hM⟩;simp only[iz,hd,hok,e,x3,r1,hte,z2];cases ok<;>rfl
  |some q=>
   obtain⟨j,y⟩:=q;obtain⟨_,hy⟩:=r2 j y rfl;obtain⟨_,hv,_⟩:=x4 y hy;have fin:∃ Z' J' a,Up Z J Z' J'/\AV Z' a y.2.1/\K (okR ok a true) J'=true:=by
    cases va with
    |false=>
     obtain⟨k1,rfl,hv⟩:=hv;obtain⟨Z',J',l,u,l1,l2,l3⟩:=jo h4 hM.vr (cs:=[y.2.1]) rfl fun i k' c q1 q2=>by
      cases i with
      |zero=>simp at q1 q2;subst q1;subst q2;exact hv
      |succ i=>simp at q1
     obtain⟨a,a1,a2⟩:=eU l3;unfold QV at a1;simp only at a1;split at a1;·cases a1;exact⟨Z',J',_,u,(l2 0 _ _ rfl rfl).2,a2⟩
     .cases a1
    |true=>
     obtain⟨n,pat,tr,e,hn,hc⟩:=hv;have hg:∃ cs:List V,cs.length=vk.length/\∀ i c,cs[i]?=some c->cell n pat tr i=some c:=by
      have:∀ (m:Nat),m<=n->∃ cs:List V,cs.length=m/\∀ i c,cs[i]?=some c->cell n pat tr i=some c:=fun m=>by
       induction m with
       |zero=>exact fun _=>⟨[],rfl,fun i c h=>by simp at h⟩
       |succ m ih=>
        intro hm;obtain⟨cs,c1,c2⟩:=ih (by omega);obtain⟨c,k',q,_⟩:=hc m (by omega);refine⟨cs++[c],by simp[c1],fun i c' hi=>?_⟩;rw[aG] at hi;split at hi;·exact c2 i c' hi
        .have hlt:=(ai.1 hi).1;have:i=m:=by simp at hlt;omega
         subst this;simp[c1] at hi;subst hi;exact q
      obtain⟨cs,c1,c2⟩:=this n (aF _);exact⟨cs,c1.trans hn,c2⟩
     obtain⟨cs,c1,c2⟩:=hg;obtain⟨Z',J',l,u,l1,l2,l3⟩:=jo h4 hM.vr (cs:=cs) c1 fun i k' c q1 q2=>by obtain⟨c',k2,a1,a2,a3⟩:=hc i (by have:=(ai.1 q1).1;omega);rw[c2 i c q2] at a1;cases a1;rw[q1] at a2;cases a2;exact a3
     obtain⟨a,a1,a2⟩:=eU l3;cases a1;refine⟨Z',J',_,u,?_,a2⟩;rw[e];have hpl:∀ a,a∈l->plain a=true:=fun a ha=>by
      obtain⟨i,hi⟩:=aX.1 ha;have hlt:i<cs.length:=by have:=(ai.1 hi).1;omega
      exact(l2 i a _ hi (ah hlt)).1
     have hln:n=l.length:=by omega
     refine .ag (by rw[hln];exact gp.plain hpl) (fun i hi=>?_) fun i c hi=>?_;·obtain⟨c,_,q,_⟩:=hc i hi;rw[q];rfl
     .have hlt:=eT hi;have hcs:cs[i]?=some c:=by
       have hh:i<cs.length:=by omega
       have:=c2 i _ (ah hh);rw[hi] at this;cases this;exact ah hh
      have hl2:i<l.length:=by omega
      have:=l2 i _ c (ah hl2) hcs;have key:∀ (l:List A),(∀ a,a∈l->plain a=true)->∀ (i:Nat) (a:A),l[i]?=some a->AV Z' a c->CA Z' l i c:=fun l=>by
       induction l with
       |nil=>intro _ i a h;simp at h
       |cons x l ih=>
        intro hp i a ha hav;cases i with
        |zero=>simp at ha;subst ha;exact .here (hp _ (by simp)) hav
        |succ i=>
         have w:WV Z' x 1:=.one fun _ _ _ e=>by have:=hp x (by simp);rw[e] at this;simp[plain] at this
         have:=CA.skip w (ih (fun a ha=>hp a (aB _ ha)) i a (by simpa using ha) hav);rw[bp 1 i] at this;exact this
      exact key l hpl i _ (ah hl2) this.2
   obtain⟨Z',J',a,u,a1,a2⟩:=fin;refine⟨U,b,_,rfl,x1,fun hh e=>?_,Res.eff ⟨Z',J',_,u,Jh a1,a2⟩ hM⟩;simp only[iz,hd,hok,e,x3,r1,hte];cases ok<;>rfl
theorem ri {α:Type}{p:α->Prop}{f:α->α}(hf:∀ x,p x->p (f x)):∀ {n:Nat} {l:List α},(∀ x,x∈l->p x)->∀ x,x∈iH f n l->p x
 |_,[],h,x,hx=>by simp[iH] at hx
 |0,y :: l,h,x,hx=>by
  simp only[iH,aq] at hx;rcases hx with rfl|hx
  .exact hf y (h y (by simp))
  .exact h x (by simp[hx])
 |n+1,y :: l,h,x,hx=>by
  simp only[iH,aq] at hx;rcases hx with rfl|hx
  .exact h x (by simp)
  .exact ri hf (fun x hx=>h x (by simp[hx])) x hx
theorem Cm {α:Type}{p:α->Prop}:∀ {n:Nat} {l:List α},(∀ x,x∈l->p x)->∀ x,x∈Ea n l->p x
 |_,[],h,x,hx=>by simp[Ea] at hx
 |0,y :: l,h,x,hx=>h x (by simp only[Ea] at hx;simp[hx])
 |n+1,y :: l,h,x,hx=>by
  simp only[Ea,aq] at hx;rcases hx with rfl|hx
  .exact h x (by simp)
  .exact Cm (fun x hx=>h x (by simp[hx])) x hx
theorem F2 (h:∀ y,fN x y=fN w y)(es:List (V×V×Nat)):lkP x es=lkP w es:=by unfold lkP;rw[nv h]
theorem Mem.mq0 (hM:Mem M fr Z J st){U s s1 ph:Nat}{kk:List EK}{key:List A}{x:LE}(hb:J.mem.get U=some (s1,.mq kk key a s ph x)){G:Γ}(h1:tY G kt true kk=true)(h2:Mv J.z key k=true)(h3:ph=0)(hk:AV Z k w):
  ∃ b es cl,Z.blks[U]?=some b/\Z.objs[s1]?=some [(b,.map es cl)]/\st.h.tr.get b=some (.map es cl)/\Z.objs[s]?=some [(b,.map es cl)]/\(∀ e,e∈es->KsV Z true kk e.1/\e.2.2<cl)/\(es.map fun e=>e.2.2).Nodup/\KsV Z true kk w/\AV Z (.ag key) w/\AV Z a (lkP w es)/\mN G kt w=true/\gu G kt w es 0=some (gH w es 0):=by
 obtain⟨b,hp,x1,x2,x3,x4⟩:=hM.hr.at' _ _ _ hb;cases x3 with
 |@mq _ _ _ _ _ _ _ es0 cl0 es cl w0 u m1 m2 m3 m4 m5 m6 m7=>
  rcases m7 with⟨_,rfl,rfl,rfl⟩|⟨q,_⟩;·obtain⟨q1,q2,q3⟩:=F0 hM.vr.zr hM.vr.z0 h2 m5 hk;refine⟨b,_,_,x1,x2,(x4 _ (aE ..)).1,m1,m2,m3,q3 m4,q2,?_,(sr h1 (q3 m4)).1,FZ h1 (q3 m4) _ _ fun e he=>(m2 e he).1⟩;rw[F2 q1];exact m6
  .exact absurd h3 q
theorem UG {G:Γ}(hd:ty.desc=.map kt et)(hb:h.tr.get b=some (.map es cl))(hk:mN G kt w=true)(hf:gu G kt w es 0=some (gH w es 0)):jU G h (some ty) (some (.map b)) (some w) (some u)=some (.tuple [],h.set b (some (.map (rR w u es cl) (clP w es cl)))):=by
 simp only[jU,hd,hb,hk,hf,rR,clP];cases q:gH w es 0 with
 |none=>rfl
 |some p=>obtain⟨i,y⟩:=p;simp only[(jI q).2.2]
theorem xY {α:Type}{f g:α->α}:∀ {n:Nat} {l:List α},(∀ x,l[n]?=some x->f x=g x)->iH f n l=iH g n l
 |_,[],_=>by simp[iH]
 |0,x :: l,h=>by simp[iH,h x rfl]
 |n+1,x :: l,h=>by simp only[iH];rw[xY (n:=n) (l:=l) fun y hy=>h y (by simpa using hy)]
theorem UH {G:Γ}{te:TY}(hd:ty.desc=.map kt et)(hte:G.ty et=some te)(hz:te.zero=some .nils)(hb:h.tr.get b=some (.map es cl))(hk:mN G kt w=true)(hf:gu G kt w es 0=some (gH w es 0)):qx G h (some ty) (some (.map b)) (some w)=some (.tuple [lkP w es,.int .i64 (Int.ofNat (zY w es cl))],h.set b (some (.map (rR w (lkP w es) es cl) (clP w es cl)))):=by
 simp only[qx,hd,hb,hk,hf,rR,clP,zY,lkP];cases q:gH w es 0 with
 |none=>simp only[hte,hz]
 |some p=>obtain⟨i,y⟩:=p;obtain⟨_,q2,q3⟩:=jI q;simp only[q3];rw[xY (f:=fun y=>(w,y.2.1,y.2.2)) (g:=fun y'=>(w,y.2.1,y'.2.2)) fun x hx=>by rw[dw] at q2;rw[q2] at hx;cases hx;rfl]
theorem Ao {bo:Nat}(h:∀ e,e∈es->e.2.2≠bo):∀ (i:Nat) {e:V×V×Nat},e.2.2=bo->kr (es++[e]) bo i=some (i+es.length):=by
 induction es with
 |nil=>intro i e he;simp only[cN,kr,(T.beq_true).2 he,cO,bX]
 |cons x es ih=>
  intro i e he;have:Nat.beq x.2.2 bo=false:=by
   cases q:Nat.beq x.2.2 bo with
   |false=>rfl
   |true=>exact absurd ((T.beq_true).1 q) (h x (by simp))
  simp only[bM,kr,this,ih (fun y hy=>h y (by simp[hy])) (Nat.succ i) he,aU];congr 1;show i+1+es.length=_;omega
theorem xZ {bo:Nat}:∀ {es:List (V×V×Nat)} {j i:Nat} {e:V×V×Nat},(es.map fun e=>e.2.2).Nodup->es[j]?=some e->e.2.2=bo->kr es bo i=some (i+j)
 |[],j,i,e,_,h,_=>by simp at h
 |x :: es,0,i,e,_,h,hb=>by simp at h;subst h;simp only[kr,(T.beq_true).2 hb,bX]
 |x :: es,j+1,i,e,hd,h,hb=>by
  have h:es[j]?=some e:=by simpa using h
  simp only[aS,bC] at hd;have:Nat.beq x.2.2 bo=false:=by
   cases q:Nat.beq x.2.2 bo with
   |false=>rfl
   |true=>exact absurd (aJ.2 ⟨e,aC h,by rw[hb];exact((T.beq_true).1 q).symm⟩) hd.1
  simp only[kr,this,xZ hd.2 h hb (i:=Nat.succ i)];congr 1;show i+1+j=_;omega
theorem mA {α:Type}{f:α->α}:∀ (n i:Nat) (l:List α),(iH f n l)[i]?=if i=n then l[i]?.map f else l[i]?
 |_,i,[]=>by simp[iH]
 |0,0,x :: l=>by simp[iH]
 |0,i+1,x :: l=>by simp[iH]
 |n+1,0,x :: l=>by simp[iH]
 |n+1,i+1,x :: l=>by simpa [iH] using mA n i l
theorem uC {α:Type}{f g:α->α}:∀ (i:Nat) (l:List α),iH f i (iH g i l)=iH (fun x=>f (g x)) i l
 |_,[]=>by simp[iH]
 |0,x :: l=>rfl
 |i+1,x :: l=>by simp only[iH,uC i l]
theorem Cn {α:Type}{f:α->α}{a:α}:∀ (l:List α),iH f l.length (l++[a])=l++[f a]
 |[]=>rfl
 |x :: l=>by simp only[aU,bM,iH,Cn l]
theorem kM {f:V×V×Nat->V×V×Nat}(hf:∀ e,(f e).2.2=e.2.2):∀ (i:Nat) (es:List (V×V×Nat)),((iH f i es).map fun e=>e.2.2)=es.map fun e=>e.2.2
 |_,[]=>by simp[iH]
 |0,e :: es=>by simp[iH,hf]
 |i+1,e :: es=>by simp[iH,kM hf i es]
theorem UI {ki:IntKind}{u':V}(he:∀ e,e∈es->e.2.2<cl)(nd:(es.map fun e=>e.2.2).Nodup)(hb:h.tr.get b=some (.map (rR w u es cl) (clP w es cl))):gd h (some (.map b)) (some (.int ki (Int.ofNat (zY w es cl)))) (some u')=some (.tuple [],h.set b (some (.map (rR w u' es cl) (clP w es cl)))):=by
 unfold rR clP zY at *;cases q:gH w es 0 with
 |none=>rw[q] at hb;simp only at hb;have:=Ao (es:=es) (bo:=cl) (fun e hm q=>by have:=he e hm;omega) 0 (e:=(w,u,cl)) rfl;rw[aI] at this;simp only[gd,hb,this,Cn]
 |some p=>obtain⟨i,y⟩:=p;rw[q] at hb;simp only at hb;obtain⟨_,q2,_⟩:=jI q;rw[dw] at q2;have:=xZ (es:=iH (fun y'=>(w,u,y'.2.2)) i es) (bo:=y.2.2) (j:=i) (i:=0) (e:=(w,u,y.2.2)) (by rw[kM (f:=fun y':V×V×Nat=>(w,u,y'.2.2)) (fun _=>rfl)];exact nd) (by rw[mA,if_pos rfl,q2];rfl) rfl;rw[aI] at this;simp only[gd,hb,this,uC]
theorem uD {G:Γ}{ty:Option TY}{x:A}(h:vP G ty x k a J K=true)(hM:Mem M fr Z J st)(hx:AV Z x v)(hk:AV Z k w)(ha:AV Z a u):∃ r h',jU G st.h ty (some v) (some w) (some u)=some (r,h')/\Eff M fr Z st r h' K:=by
 unfold vP at h;split at h;case h_2=>cases h
 rename_i ty;split at h;case h_2=>cases h
 rename_i kt et U hd;split at h;case h_4=>cases h
 case h_3=>
  rename_i s1 kk key v0 s ph x0 hb;simp only[ae,T.beq_true] at h;obtain⟨⟨⟨h1,h2⟩,h3⟩,h4⟩:=h;obtain⟨b,es,cl,x1,x2,x3,y1,y2,y3,y4,y5,_,y7,y8⟩:=hM.mq0 hb h1 h2 h3 hk;cases hx with
  |@m _ b' hx=>rw[x1] at hx;cases hx;obtain⟨Z',l,m⟩:=hM.gG (ao':=.mq kk key a s 2 x0) (o':=.map (rR w u es cl) (clP w es cl)) hb x1 x2 (.mq y1 y2 y3 y4 y5 ha (.inr ⟨by omega,rfl,rfl,fun q=>by omega⟩));exact⟨_,_,UG hd x3 y7 y8,Z',_,_,l,m,.tp .nil,h4⟩
 case h_1=>
  rename_i s es hb;split at h;case h_2=>cases h
  rename_i n h1;split at h;·cases h
  rename_i q;simp only[Bool.or_eq_false_iff,Bool.not_eq_false'] at q;obtain⟨g1,g2⟩:=KP h1;obtain⟨b,es',cl,x1,x2,x3,x4,x5,x6,x7⟩:=hM.RT hb;cases hk;cases hx with
  |@m _ b' hx=>
   rw[x1] at hx;cases hx;have r1:=Cl g2 (i:=0) q.1 x4;obtain⟨Z',l,m⟩:=hM.gG (ao':=.mx (es++[(n,a)])) (o':=.map (es'++[(.int .i64 n,u,cl)]) (Nat.succ cl)) hb x1 x2 (.mx (by simp[x4]) (by
    rw[cP,cP];exact x5.app (.cons ha .nil)) ⟨fun i e he=>by
    rw[aG] at he;split at he;·exact x6 i e he
    .rename_i hi;have hi':i - es'.length=0:=by
      have:=(ai.1 he).1;simp at this;omega
     rw[hi'] at he;cases he;show cl=i;omega,by rw[x7,bt];rfl⟩)
   exact⟨.tuple [],_,by simp only[jU,hd,x3,g1,r1],Z',_,_,l,m,.tp .nil,h⟩
 rename_i s kk ka vk va hb;simp only[ae] at h;obtain⟨⟨h1,h2⟩,h3⟩:=h;obtain⟨ks,k1,h3⟩:=eU h3;obtain⟨vk',j1,h3⟩:=eU h3;obtain⟨b,es,cl,x1,x2,x3,x4⟩:=hM.map hb;cases hx with
 |@m _ b' hx=>
  rw[x1] at hx;cases hx;have hkw:=xW hM.vr.zr hM.vr.z0 h2 hk;have hvu:=vW hM.vr.zr hM.vr.z0 k1 ha;obtain⟨r,r1,r2⟩:=jq h1 hkw es 0 fun e he=>(x4 e he).1;have hok:=(sr h1 hkw).1;obtain⟨jl1,jl2,jv⟩:=kJ hM.vr.zr hM.vr.z0 (Z:=Z) j1;have old:∀ {y:V},KsV Z va vk y->KsV Z va vk' y:=fun q=>q.imp jl1 fun i k' hk'=>by
   have hlt:i<vk'.length:=by have:=(ai.1 hk').1;omega
   exact⟨_,ah hlt,(jv i _ (ah hlt)).1 k' hk'⟩
  have new:KsV Z va vk' u:=hvu.imp jl2 fun i k' hk'=>by
   have hlt:i<vk'.length:=by have:=(ai.1 hk').1;omega
   exact⟨_,ah hlt,(jv i _ (ah hlt)).2 k' hk'⟩
  have fin:∀ (es':List (V×V×Nat)) (cl':Nat),(∀ e,e∈es'->KsV Z ka kk e.1/\KsV Z va vk' e.2.1/\e.2.2<cl')->Eff M fr Z st (.tuple []) (st.h.set b (some (.map es' cl'))) K:=fun es' cl' q=>by obtain⟨Z',l,m⟩:=hM.gG hb x1 x2 (.mp q);exact⟨Z',_,_,l,m,.tp .nil,h3⟩
  cases r with
  |none=>
   refine⟨.tuple [],st.h.set b (some (.map (es++[(w,u,cl)]) (Nat.succ cl))),by simp only[jU,hd,x3,hok,r1],fin _ _ fun e he=>?_⟩;rcases aK.1 he with q|q
   .obtain⟨a1,a2,a3⟩:=x4 e q;exact⟨a1,old a2,by show e.2.2<cl+1;omega⟩
   .simp only[aq,aA,or_false] at q;subst q;exact⟨hkw,new,cF _⟩
  |some q=>obtain⟨j,y⟩:=q;obtain⟨e1,hy⟩:=r2 j y rfl;refine⟨.tuple [],st.h.set b (some (.map (iH (fun y=>(w,u,y.2.2)) j es) cl)),by simp only[jU,hd,x3,hok,r1,e1],fin _ _ ?_⟩;refine fun e he=>ri (p:=fun e=>KsV Z ka kk e.1/\KsV Z va vk' e.2.1/\e.2.2<cl) (f:=fun y=>(w,u,y.2.2)) (fun x hx=>⟨hkw,new,hx.2.2⟩) (fun x hx=>?_) e he;obtain⟨a1,a2,a3⟩:=x4 x hx;exact⟨a1,old a2,a3⟩
theorem Co {G:Γ}{kt:TypeId}{k:V}:∀ {es:List (V×V×Nat)} {i j:Nat} {y:V×V×Nat},gu G kt k es i=some (some (j,y))->i<=j/\es[j - i]?=some y/\eqO G 8 kt k y.1=some true
 |[],i,j,y,h=>by simp[gu] at h
 |e :: es,i,j,y,h=>by
  unfold gu at h;split at h;·rename_i q;cases h;exact⟨aF _,by simp,q⟩
  .obtain⟨a,b,c⟩:=Co h;refine⟨by omega,?_,c⟩;rw[show j - i=(j - Nat.succ i)+1 by omega,aQ];exact b
  .cases h
theorem vX {α:Type}{f:α->α}:∀ {n:Nat} {l:List α} {x:α},l[n]?=some x->f x∈iH f n l
 |_,[],x,h=>by simp at h
 |0,y :: l,x,h=>by simp at h;subst h;simp[iH]
 |n+1,y :: l,x,h=>aB _ (vX (by simpa using h))
theorem F3 {G:Γ}{ty:Option TY}{x:A}(h:FG G ty x k J K=true)(hM:Mem M fr Z J st)(hx:AV Z x v)(hk:AV Z k w):∃ r h',qx G st.h ty (some v) (some w)=some (r,h')/\Eff M fr Z st r h' K:=by
 unfold FG at h;split at h;case h_2=>cases h
 rename_i ty;split at h;case h_2=>cases h
 rename_i kt et U hd;split at h;case h_3=>cases h
 case h_2=>
  rename_i s1 kk key v0 s ph x0 te hb hte;split at h;case h_2=>cases h
  rename_i g hz;simp only[ae,T.beq_true] at g;obtain⟨⟨h1,h2⟩,h3⟩:=g;obtain⟨b,es,cl,x1,x2,x3,y1,y2,y3,y4,y5,y6,y7,y8⟩:=hM.mq0 hb h1 h2 h3 hk;cases hx with
  |@m _ b' hx=>rw[x1] at hx;cases hx;obtain⟨Z2,J2,e,u2,n2,_,_,k2⟩:=fM h hM.vr (zY w es cl:Int) (fun e he=>by simp only[aq,aA,or_false] at he;subst he;exact⟨_,eO hM.vr.z0 _,da _⟩) (fun e he=>nomatch he);obtain⟨Z',l',m'⟩:=(hM.up u2).gG (U:=U) (s:=s1) (b:=b) (o:=.map es cl) (ao':=.mq kk key v0 s 1 e) (o':=.map (rR w (lkP w es) es cl) (clP w es cl)) (by rw[u2.same.mem];exact hb) (u2.le.b x1) (u2.le.o x2) (.mq (u2.le.o y1) (fun e he=>let ⟨p,q⟩:=y2 e he;⟨p.mono u2.le,q⟩) y3 (y4.mono u2.le) (y5.mono u2.le) (y6.mono u2.le) (.inr ⟨by omega,rfl,rfl,fun _=>n2⟩));exact⟨_,_,UH hd hte hz x3 y7 y8,Z',_,_,u2.le.trans l',m',.tp (.cons ((y6.mono u2.le).mono l') (.cons (.i (n2.mono l')) .nil)),k2⟩
 rename_i s kk ka vk te hb hte;simp only[ae] at h;obtain⟨⟨h1,h2⟩,h3⟩:=h;obtain⟨z,z1,h3⟩:=eU h3;split at h3;case h_2=>cases h3
 rename_i qz;simp only[ae] at qz;obtain⟨zk,k1,h3⟩:=eU h3;obtain⟨vk',j1,h3⟩:=eU h3;obtain⟨b,es,cl,x1,x2,x3,x4⟩:=hM.map hb;cases hx with
 |@m _ b' hx=>
  rw[x1] at hx;cases hx;have hkw:=xW hM.vr.zr hM.vr.z0 h2 hk;have hvz:=vW hM.vr.zr hM.vr.z0 k1 (AV.k (Z:=Z) z);obtain⟨r,r1,r2⟩:=jq h1 hkw es 0 fun e he=>(x4 e he).1;have hok:=(sr h1 hkw).1;obtain⟨jl1,jl2,jv⟩:=kJ hM.vr.zr hM.vr.z0 (Z:=Z) j1;have old:∀ {y:V},KsV Z false vk y->KsV Z false vk' y:=fun q=>q.imp jl1 fun i k' hk'=>by
   have hlt:i<vk'.length:=by have:=(ai.1 hk').1;omega
   exact⟨_,ah hlt,(jv i _ (ah hlt)).1 k' hk'⟩
  have new:KsV Z false vk' z:=hvz.imp jl2 fun i k' hk'=>by
   have hlt:i<vk'.length:=by have:=(ai.1 hk').1;omega
   exact⟨_,ah hlt,(jv i _ (ah hlt)).2 k' hk'⟩
  have fin:∀ (es':List (V×V×Nat)) (cl':Nat) (u:V) (bo:Nat),KsV Z false vk' u->(∀ e,e∈es'->KsV Z ka kk e.1/\KsV Z false vk' e.2.1/\e.2.2<cl')->(∃ e,e∈es'/\e.2.2=bo)->QN z es es'->Eff M fr Z st (.tuple [u,.int .i64 (Int.ofNat bo)]) (st.h.set b (some (.map es' cl'))) K:=fun es' cl' u bo hu q ⟨e0,e1,e2⟩ hEe=>by
   have hu':=hu;obtain⟨kk1,rfl,hv⟩:=hu;obtain⟨Z1,J1,l,u1,l1,l2,l3⟩:=jo h3 hM.vr (cs:=[u]) rfl fun i k' c q1 q2=>by
    cases i with
    |zero=>simp at q1 q2;subst q1;subst q2;exact hv
    |succ i=>simp at q1
   obtain⟨a,a1,a2⟩:=eU l3;have ha:AV Z1 a u:=by
    unfold QV at a1;simp only at a1;split at a1;·cases a1;exact(l2 0 _ _ rfl rfl).2
    .cases a1
   obtain⟨Z2,J2,e,u2,n2,_,_,k2⟩:=fM a2 u1.vr (bo:Int) (fun e he=>by simp only[aq,aA,or_false] at he;subst he;exact⟨_,eO u1.vr.z0 _,da _⟩) (fun e he=>nomatch he);have u:=u1.trans u2;obtain⟨Z',l',m'⟩:=(hM.up u).gG (U:=U) (s:=s) (b:=b) (o:=.map es cl) (ao':=.me kk ka [kk1] false e s z) (o':=.map es' cl') (by rw[u.same.mem];exact hb) (u.le.b x1) (u.le.o x2) (.me (fun e he=>let ⟨y1,y2,y3⟩:=q e he;⟨y1.mono u.le,y2.mono u.le,y3⟩) ⟨e0,e1,by rw[e2];exact n2⟩ ⟨es,cl,u.le.o x2,hEe⟩);exact⟨Z',_,_,u.le.trans l',m',.tp (.cons ((ha.mono u2.le).mono l') (.cons (.i (n2.mono l')) .nil)),k2⟩
  cases r with
  |none=>
   refine⟨_,_,by simp only[qx,hd,x3,hok,r1,hte,z1],fin (es++[(w,z,cl)]) (Nat.succ cl) z cl new (fun e he=>?_) ⟨(w,z,cl),by simp,rfl⟩ (.inr ⟨w,cl,rfl⟩)⟩;rcases aK.1 he with q|q
   .obtain⟨a1,a2,a3⟩:=x4 e q;exact⟨a1,old a2,by show e.2.2<cl+1;omega⟩
   .simp only[aq,aA,or_false] at q;subst q;exact⟨hkw,new,cF _⟩
  |some q=>obtain⟨j,y⟩:=q;obtain⟨e1,hy⟩:=r2 j y rfl;obtain⟨_,f2,_⟩:=Co r1;rw[dw] at f2;refine⟨_,_,by simp only[qx,hd,x3,hok,r1,e1],fin (iH (fun y=>(w,y.2.1,y.2.2)) j es) cl y.2.1 y.2.2 (old (x4 y hy).2.1) (fun e he=>?_) ⟨_,vX f2,rfl⟩ (.inl ⟨j,w,y,rfl,f2,e1⟩)⟩;refine ri (p:=fun e=>KsV Z ka kk e.1/\KsV Z false vk' e.2.1/\e.2.2<cl) (f:=fun y=>(w,y.2.1,y.2.2)) (by intro x hx;exact⟨hkw,hx.2.1,hx.2.2⟩) (fun x hx=>?_) e he;obtain⟨a1,a2,a3⟩:=x4 x hx;exact⟨a1,old a2,a3⟩
theorem sy:∀ {es:List (V×V×Nat)} {n i:Nat} {e:V×V×Nat},e∈es->e.2.2=n->∃ j,kr es n i=some j
 |[],_,_,_,h,_=>nomatch h
 |x :: es,n,i,e,h,hn=>by
  unfold kr;split;·exact⟨_,rfl⟩
  .rename_i q;rcases aq.1 h with rfl|h
   .rw[(T.beq_true).2 hn] at q;cases q
   .exact sy h hn
theorem ud {x bx:A}(h:nq x bx a J K=true)(hM:Mem M fr Z J st)(hx:AV Z x v)(hk:AV Z bx w)(ha:AV Z a u):∃ r h',gd st.h (some v) (some w) (some u)=some (r,h')/\Eff M fr Z st r h' K:=by
 unfold nq at h;split at h;case h_2=>cases h
 rename_i U ki p hp;split at h;case h_3=>cases h
 case h_2=>
  rename_i s1 kk key v0 s ph e hb;split at h;case h_2=>cases h
  rename_i g;simp only[ae,T.beq_true] at g;obtain⟨b,hp',x1,x2,x3,x4⟩:=hM.hr.at' _ _ _ hb;cases x3 with
  |@mq _ _ _ _ _ _ _ es0 cl0 es cl w0 u0 m1 m2 m3 m4 m5 m6 m7=>
   have x3':=(x4 _ (aE ..)).1;simp only at x3';rcases m7 with⟨q,_⟩|⟨_,rfl,rfl,q⟩
   .omega
   obtain⟨n,rfl,hn⟩:=kQ hM.vr.z0 hp hk;cases hx with
   |@m _ b' hx=>rw[x1] at hx;cases hx;have hnb:=jB hM.vr.zr hM.vr.z0 g.2 hn (q g.1);subst hnb;obtain⟨Z',l,m⟩:=hM.gG (ao':=.mq kk key a s 2 e) (o':=.map (rR w0 u es0 cl0) (clP w0 es0 cl0)) hb x1 x2 (.mq m1 m2 m3 m4 m5 ha (.inr ⟨by omega,rfl,rfl,fun q=>by omega⟩));exact⟨_,_,UI (fun e he=>(m2 e he).2) m3 x3',Z',_,_,l,m,.tp .nil,h⟩
 rename_i s kk ka vk va e s0 z0 hb;split at h;case h_2=>cases h
 rename_i q;obtain⟨ks,k1,h3⟩:=eU h;obtain⟨vk',j1,h3⟩:=eU h3;obtain⟨n,rfl,hn⟩:=kQ hM.vr.z0 hp hk;obtain⟨b,hp',x1,x2,x3,x4⟩:=hM.hr.at' _ _ _ hb;cases x3 with
 |@me _ _ _ _ _ _ _ _ es cl m1 m2 m3=>
 have x3':=(x4 _ (aE ..)).1;simp only at x3';cases hx with
 |@m _ b' hx=>
  rw[x1] at hx;cases hx;obtain⟨e0,e1,e2⟩:=m2;have hnb:=jB hM.vr.zr hM.vr.z0 q hn e2;subst hnb;obtain⟨j,hj⟩:=sy (i:=0) e1 rfl;have hvu:=vW hM.vr.zr hM.vr.z0 k1 ha;obtain⟨jl1,jl2,jv⟩:=kJ hM.vr.zr hM.vr.z0 (Z:=Z) j1;have old:∀ {y:V},KsV Z va vk y->KsV Z va vk' y:=fun q=>q.imp jl1 fun i k' hk'=>by
   have hlt:i<vk'.length:=by have:=(ai.1 hk').1;omega
   exact⟨_,ah hlt,(jv i _ (ah hlt)).1 k' hk'⟩
  have new:KsV Z va vk' u:=hvu.imp jl2 fun i k' hk'=>by
   have hlt:i<vk'.length:=by have:=(ai.1 hk').1;omega
   exact⟨_,ah hlt,(jv i _ (ah hlt)).2 k' hk'⟩
  obtain⟨Z',l,m⟩:=hM.gG (ao':=.mp kk ka vk' va) (o':=.map (iH (fun y=>(y.1,u,y.2.2)) j es) cl) hb x1 x2 (.mp (fun e he=>ri (p:=fun e=>KsV Z ka kk e.1/\KsV Z va vk' e.2.1/\e.2.2<cl) (f:=fun y=>(y.1,u,y.2.2)) (by intro x hx;exact⟨hx.1,new,hx.2.2⟩) (fun x hx=>by obtain⟨a1,a2,a3⟩:=m1 x hx;exact⟨a1,old a2,a3⟩) e he));refine⟨_,_,?_,Z',_,_,l,m,.tp .nil,h3⟩;show gd st.h (some (.map b)) (some (.int ki (Int.ofNat e0.2.2))) (some u)=_;simp only[gd,x3',hj]
theorem Cp (h:eqS x y=true):x=y:=by
 cases x<;>cases y<;>simp only[eqS] at h<;>first|cases h;done|skip
 .rw[eq_of_beq h]
 .simp only[ae,decide_eq_true_eq,iT] at h;rw[h.1,h.2]
 .rw[eq_of_beq h]
theorem ya:∀ {l l':List V},EC l l'=true->l=l'
 |[],[],_=>rfl
 |[],_ :: _,h=>by cases h
 |_ :: _,[],h=>by cases h
 |a :: l,b :: l',h=>by simp only[EC,ae] at h;rw[Cp h.1,ya h.2]
theorem qm {G:Γ}{eq:TypeId->V->V->Option Bool}{n0 n:Nat}{p0 pat pat':List V}{t0 tr tr':T V}(hc:∀ i,cell n pat tr i=cell n pat' tr' i):∀ {fs:List Field} {ks:List EK} {j:Nat},nl G fs ks j=true->eqFields G eq n0 p0 t0 n pat tr fs=eqFields G eq n0 p0 t0 n pat' tr' fs
 |[],_,_,_=>rfl
 |f :: fs,[],j,h=>by cases h
 |f :: fs,k :: ks,j,h=>by
  simp only[nl,ae,bw,T.beq_true] at h;obtain⟨⟨⟨h1,h2⟩,h3⟩,h4⟩:=h;split at h1;case h_2=>cases h1
  rename_i ft hft;simp only[ae,bw] at h1;simp only[eqFields,h2,hft,h1.1,Ev.partAt,hc f.offset,qm hc h4]
theorem F4 {G:Γ}(h:tY G t ag ks=true){k:V}(hx:KsV Z ag ks x)(hk:KsV Z ag ks k)(hy:KsV Z ag ks y)(he:fN k y=true):eqO G 8 t x k=eqO G 8 t x y:=by
 unfold tY at h;split at h;case h_2=>cases h
 rename_i ty hp hty;split at h
 .split at h;case h_2=>cases h
  rename_i k0;obtain⟨k1,e1,hk⟩:=hk;cases e1;have:eqS k y=true:=by
   unfold fN at he;split at he;·unfold xO at h;split at h<;>first|(cases hk;done)|cases h
   .exact he
  rw[Cp this]
 .split at h;case h_2=>cases h
  rename_i fs hd;simp only[ae,T.beq_true] at h;obtain⟨n0,p0,t0,rfl,_,_⟩:=hx;obtain⟨n,pat,tr,rfl,hn,hc⟩:=hk;obtain⟨n',pat',tr',rfl,hn',hc'⟩:=hy;have hnn:n=n':=hn.trans hn'.symm;subst hnn;have hcell:∀ i,cell n pat tr i=cell n pat' tr' i:=fun i=>by
   unfold fN at he;simp only at he;split at he
   .rename_i l l' _ g1 g2;have hl:=ya he;subst hl;obtain⟨a1,a2⟩:=eP g1;obtain⟨b1,b2⟩:=eP g2;by_cases hi:i<n;·have e:=ah (l:=l) (i:=i) (by omega);have x1:=a2 i _ e;have x2:=b2 i _ e;rw[aI] at x1 x2;rw[x1,x2]
    .have none:∀ {pat:List V} {tr:T V},cell n pat tr i=Option.none:=fun {pat tr}=>by
      cases q:cell n pat tr i with
      |none=>rfl
      |some c=>exact absurd (eT q) hi
     rw[none,none]
   .cases he
  unfold eqO;simp only[hty,hd];rw[qm hcell h.2]
theorem yb {G:Γ}{kt:TypeId}{x k:V}:∀ {es:List (V×V×Nat)} {i s:Nat} {y:V×V×Nat},es[i]?=some y->eqO G 8 kt x k=eqO G 8 kt x y.1->(gu G kt x (iH (fun y=>(k,y.2.1,y.2.2)) i es) s).map (Option.map fun p=>p.2.2.1)=(gu G kt x es s).map (Option.map fun p=>p.2.2.1)
 |[],i,s,y,h,_=>by simp at h
 |e :: es,0,s,y,h,he=>by simp at h;subst h;simp only[iH,gu,he];split<;>rfl
 |e :: es,i+1,s,y,h,he=>by
  simp only[iH,gu];split;·rfl
  .exact yb (by simpa using h) he
  .rfl
theorem yc {G:Γ}{kt:TypeId}{x:V}{e:V×V×Nat}:∀ {es:List (V×V×Nat)} {s:Nat},gu G kt x (es++[e]) s=match gu G kt x es s with
  |some none=>gu G kt x [e] (s+es.length)
  |r=>r
 |[],s=>rfl
 |a :: es,s=>by
  simp only[bM,gu];split;·rfl
  .rw[yc (es:=es)];simp only[gu,aU];rw[show Nat.succ s+es.length=s+(es.length+1) by omega]
  .rfl
theorem DF {G:Γ}{te:TY}(hd:ty.desc=.map kt et)(hte:G.ty et=some te)(h:tY G kt ag ks=true){z:V}(hz:te.zero=some z)(hx:KsV Z ag ks x){es0:List (V×V×Nat)}{cl0:Nat}(hEe:QN z es0 es)(h0:∀ e,e∈es0->KsV Z ag ks e.1)(h1:∀ e,e∈es->KsV Z ag ks e.1){a c:H}(ha:a.tr.get b=some (.map es0 cl0))(hc:c.tr.get b=some (.map es cl))(hv:iz G (some ty) a (some (.map b)) (some x) false=some v):iz G (some ty) c (some (.map b)) (some x) false=some v:=by
 have hok:=(sr h hx).1;obtain⟨r0,r01,_⟩:=jq h hx es0 0 h0;obtain⟨r1,r11,_⟩:=jq h hx es 0 h1;simp only[iz,hd,hok,ha,r01,hte,hz] at hv;simp only[iz,hd,hok,hc,r11,hte,hz];rcases hEe with⟨i,k,y,rfl,e1,e2⟩|⟨k,cl',rfl⟩
 .have hy:y∈es0:=aC e1;have hk:=h1 _ (vX (f:=fun y=>(k,y.2.1,y.2.2)) e1);have:=yb (G:=G) (kt:=kt) (x:=x) (s:=0) e1 (F4 h hx hk (h0 _ hy) e2);rw[r01,r11] at this;cases r0 with
  |none=>
   cases r1 with
   |none=>exact hv
   |some p=>simp at this
  |some p0=>
   cases r1 with
   |none=>simp at this
   |some p=>simp only[cA,bW] at this;obtain⟨j,a1,a2,a3⟩:=p;obtain⟨j0,b1,b2,b3⟩:=p0;simp only at this hv ⊢;rw[this];exact hv
 .rw[yc,r01] at r11;cases r0 with
  |some p0=>simp only[bW] at r11;subst r11;exact hv
  |none=>
   simp only[gu] at r11;split at r11;·cases r11;simpa [hz] using hv
   .cases r11;exact hv
   .cases r11
theorem DG {G:Γ}{ty:Option TY}{x:A}(h:Ah G ty x k J K=true)(hM:Mem M fr Z J st)(hx:AV Z x v)(hk:AV Z k w):∃ r h',pM G ty st.h (some v) (some w)=some (r,h')/\Eff M fr Z st r h' K:=by
 unfold Ah at h;split at h;case h_2=>cases h
 rename_i ty;split at h;case h_2=>cases h
 rename_i kt et U hd;split at h;case h_2=>cases h
 rename_i s kk ka vk va hb;simp only[ae] at h;obtain⟨⟨h1,h2⟩,h3⟩:=h;obtain⟨b,es,cl,x1,x2,x3,x4⟩:=hM.map hb;cases hx with
 |@m _ b' hx=>
  rw[x1] at hx;cases hx;have hkw:=xW hM.vr.zr hM.vr.z0 h2 hk;obtain⟨r,r1,r2⟩:=jq h1 hkw es 0 fun e he=>(x4 e he).1;have hok:=(sr h1 hkw).1;cases r with
  |none=>
   obtain⟨Z',l,m⟩:=hM.gG hb x1 x2 (.mp x4);have same:∀ x,(st.h.set b (some (.map es cl))).tr.get x=st.h.tr.get x:=fun x=>by
    rw[fG];split;·rename_i e;rw[e];exact x3.symm
    .rfl
   refine⟨.tuple [],st.h,by simp only[pM,hd,x3,hok,r1],Z',_,_,l,?_,.tp .nil,h3⟩;refine⟨m.vr,m.sz,m.er,⟨fun U s ao q=>?_,m.hr.sep,fun x a b'=>?_,by have:=m.hr.le;rw[fB] at this;exact this,m.hr.gl⟩,m.df.nd,fun d hd=>?_,m.df.sep⟩;·obtain⟨c,hp,y1,y2,y3,y4⟩:=m.hr.at' U s ao q;refine⟨c,hp,y1,y2,y3,fun p hp'=>?_⟩;obtain⟨z1,z2,z3⟩:=y4 p hp';exact⟨by rw[<- same];exact z1,by rw[fB] at z2;exact z2,z3⟩
   .rw[<- same];exact m.hr.frame x a b'
   .obtain⟨d1,d2,d3⟩:=m.df.at' d hd;exact⟨by rw[<- same];exact d1,by rw[fB] at d2;exact d2,d3⟩
  |some q=>obtain⟨j,y⟩:=q;obtain⟨Z',l,m⟩:=hM.gG hb x1 x2 (.mp (es:=Ea j es) (cl:=cl) (Z:=Z) (kk:=kk) (ka:=ka) (vk:=vk) (va:=va) fun e he=>Cm x4 e he);exact⟨.tuple [],st.h.set b (some (.map (Ea j es) cl)),by simp only[pM,hd,x3,hok,r1],Z',_,_,l,m,.tp .nil,h3⟩
end
end Go.Ae
namespace Go.Ae
open Go.Ev
variable {l:List UInt8}{ty:Option TY}{x a:A}{v:V}{asserted:TypeId}
section
variable {M:TH}{fr:FR}{Z:NV}{J:AS}{st:St}{K:A->AS->Bool}
theorem kP (hM:Mem M fr Z J st):∀ {l:List Operand} {r:List A},lq J l=some r->∃ vs,eX st.env.get l=some vs/\AVs Z r vs
 |[],r,h=>by cases h;exact⟨[],rfl,.nil⟩
 |x :: l,r,h=>by
  simp only[lq] at h;split at h;·rename_i a q h1 h2;cases h;obtain⟨v,v1,v2⟩:=eS hM h1;obtain⟨vs,w1,w2⟩:=kP hM h2;exact⟨v :: vs,by simp only[eX,v1,w1],.cons v2 w2⟩
  .cases h
theorem sJ {less:Bool}{k:IntKind}:∀ {l:List A} {x:LE} {J:AS} {Z:NV},OG less k x l J K=true->VR Z J->∀ {n:Int} {vs:List V},Num Z x n->AVs Z l vs->∃ v,oF.go (match less with
   |true=>ilt
   |false=>fun a b=>ilt b a) k n vs=some v/\Res Z J v K
 |[],x,J,Z,h,hv,n,vs,hn,hl=>by cases hl;exact⟨_,rfl,.now hv (.i hn) h⟩
 |a :: l,x,J,Z,h,hv,n,vs,hn,hl=>by
  simp only[OG] at h;split at h;case h_2=>cases h
  rename_i p hp;cases hl with
  |cons h1 h2=>
   obtain⟨y,rfl,hy⟩:=kQ hv.z0 (k:=p.1) (e:=p.2) hp h1;cases less with
   |true=>
    obtain⟨J',u,k'⟩:=iu h hv (.lt hy hn);simp only[oF.go,lj];by_cases q:y<n;·simp only[q,decide_true] at k' ⊢;obtain⟨v,v1,v2⟩:=sJ k' u.vr (hy.mono u.le) h2;exact⟨v,v1,.up u v2⟩
    .simp only[q,decide_false] at k' ⊢;obtain⟨v,v1,v2⟩:=sJ k' u.vr (hn.mono u.le) h2;exact⟨v,v1,.up u v2⟩
   |false=>
    obtain⟨J',u,k'⟩:=iu h hv (.lt hn hy);have e1:∀ r,oF.go (fun a b=>ilt b a) k n (.int p.1 y :: r)=oF.go (fun a b=>ilt b a) k (match ilt n y with|true=>y|false=>n) r:=fun _=>rfl;simp only[e1,lj n y];by_cases q:n<y;·simp only[q,decide_true] at k' ⊢;obtain⟨v,v1,v2⟩:=sJ k' u.vr (hy.mono u.le) h2;exact⟨v,v1,.up u v2⟩
    .simp only[q,decide_false] at k' ⊢;obtain⟨v,v1,v2⟩:=sJ k' u.vr (hn.mono u.le) h2;exact⟨v,v1,.up u v2⟩
theorem CB {less:Bool}{l:List A}(h:IA less l J K=true)(hv:VR Z J){vs:List V}(hl:AVs Z l vs):∃ v,oF (some vs) (match less with
   |true=>ilt
   |false=>fun a b=>ilt b a)=some v/\Res Z J v K:=by
 unfold IA at h;split at h;case h_2=>cases h
 split at h;case h_2=>cases h
 rename_i p hp;cases hl with
 |cons h1 h2=>obtain⟨y,rfl,hy⟩:=kQ hv.z0 (k:=p.1) (e:=p.2) hp h1;exact sJ h hv hy h2
theorem M0 {G:Γ}(h:RF G ty x J K=true)(hM:Mem M fr Z J st)(hx:AV Z x v):∃ r,(∀ h2,uO G ty h2 (some v)=some r)/\Eff M fr Z st r st.h K:=by
 have now:∀ {r:V} {a:A},AV Z a r->K a J=true->Eff M fr Z st r st.h K:=fun h1 h2=>⟨Z,J,_,.refl _,hM,h1,h2⟩;unfold RF at h;split at h;·cases h
 rename_i ty;split at h;·rename_i n _ hd;exact⟨.int .i64 (Int.ofNat n),fun h2=>by simp only[uO,hd],now (.k _) h⟩
 .rename_i arr hd;split at h;case h_2=>cases h
  rename_i ta hta;split at h;case h_2=>cases h
  rename_i n _ hda;exact⟨.int .i64 (Int.ofNat n),fun h2=>by simp only[uO,hd,hta,hda],now (.k _) h⟩
 .rename_i s hd;cases hx;exact⟨.int .i64 (Int.ofNat s.length),fun h2=>by simp only[uO,hd],now (.k _) h⟩
 .rename_i j x hd;cases hx with
  |@s _ _ s h1 h2=>exact⟨.int .i64 (Int.ofNat s.length),fun _=>by simp only[uO,hd],now (.i ⟨_,h2,by simp⟩) h⟩
 .rename_i hd;cases hx;exact⟨.int .i64 0,fun h2=>by simp only[uO,hd],now (.k _) h⟩
 .rename_i hd;cases hx with
  |@sl _ _ _ _ len _ _ _ h1 h2 h3 h4=>exact⟨.int .i64 (Int.ofNat len),fun _=>by simp only[uO,hd],now (.i h3) h⟩
 .rename_i hd;cases hx with
  |@su _ _ _ _ len _ _ _ _ _ h1 h2 h3 h4 h5 h6=>exact⟨.int .i64 (Int.ofNat len),fun _=>by simp only[uO,hd],now (.i h3) h⟩
  |su0 h1=>exact⟨.int .i64 0,fun _=>by simp only[uO,hd],now (.i h1) h⟩
 .rename_i hd;cases hx with
  |@re _ _ _ _ _ len _ h1 h2=>exact⟨.int .i64 (Int.ofNat len),fun _=>by simp only[uO,hd],now (.i h2) h⟩
  |re0 h1 h2=>exact⟨.int .i64 0,fun _=>by simp only[uO,hd],now (.i h2) h⟩
 .rename_i hd;cases hx with
  |@sn _ _ _ _ _ len _ h1 h2 h3=>exact⟨.int .i64 (Int.ofNat len),fun _=>by simp only[uO,hd],now (.i h2) h⟩
  |sn0 h1 h2=>exact⟨.int .i64 0,fun _=>by simp only[uO,hd],now (.i h1) h⟩
 .rename_i hd;cases hx;exact⟨.int .i64 (Int.ofNat _),fun h2=>by simp only[uO,hd],now (.k _) h⟩
 .rename_i hd;cases hx;exact⟨.int .i64 0,fun h2=>by simp only[uO,hd],now (.k _) h⟩
 .cases h
theorem M1 (h:RH a J K=true)(hM:Mem M fr Z J st)(ha:AV Z a v):∃ r,Qd (some v)=some r/\Res Z J r K:=by
 unfold RH at h;split at h
 .rename_i q;unfold Ko at q;split at q
  .cases ha with
   |p h1 h2=>exact⟨_,rfl,.now hM.vr (.p h1 h2) h⟩
  .cases ha with
   |fn h1 h2=>exact⟨_,rfl,.now hM.vr (.fn h1 h2) h⟩
  .cases q
 .split at h
  .cases ha;split at h;·rename_i r hr;exact⟨r,hr,.now hM.vr (.k _) h⟩
   .cases h
  .cases h
theorem wq (hM:Mem M fr Z J st){x:Option Operand}{a:Option A}(h:FE J x=some a):∃ v,OpO Z st.env.get x a v:=by
 unfold FE at h;split at h;·cases h;exact⟨none,(fun x h=>nomatch h),fun _=>rfl,trivial⟩
 .rename_i y;split at h;·rename_i b hb;cases h;obtain⟨v,v1,v2⟩:=eS hM hb;exact⟨some v,fun x h=>by cases h;exact⟨v1.symm,by rw[v1];rfl⟩,(fun h=>nomatch h),v2⟩
  .cases h
theorem AVs.nth {l:List A}{vs:List V}(h:AVs Z l vs){i:Nat}{a:A}(ha:Ev.nth l i=some a):∃ v,Ev.nth vs i=some v/\AV Z a v:=by
 match l,vs,h,i with
 |_,_,.nil,i=>cases i<;>cases ha
 |_,_,.cons h1 h2,0=>cases ha;exact⟨_,rfl,h1⟩
 |_,_,.cons h1 h2,i+1=>exact AVs.nth h2 ha
theorem GG (l:List UInt8)(i:Nat){c:UInt8}(h:l[i]?=some c):(⟨l.toArray⟩:ByteArray).get! i=c:=by obtain⟨hi,e⟩:=ai.1 h;show l.toArray[i]! = c;rw[getElem!_pos l.toArray i (by simpa using hi)];simpa using e
theorem yo {i:Nat}{c:UInt8}(h:l[i]?=some c)(hc:c.toNat<128):Utf8.decode ⟨l.toArray⟩ i=(c.toNat,1):=by unfold Utf8.decode;simp only[bX,GG l i h];rw[if_pos hc]
theorem AG {i:Nat}(h:i<l.length):1<=(Utf8.decode ⟨l.toArray⟩ i).2/\i+(Utf8.decode ⟨l.toArray⟩ i).2<=l.length:=by
 have hs:(⟨l.toArray⟩:ByteArray).size=l.length:=by simp[ByteArray.size]
 unfold Utf8.decode;simp only[hs];repeat' split
 all_goals
  simp only[ae,decide_eq_true_eq] at *;try omega
theorem GI {G:Γ}{t:TypeId}(h:FH (G.ty t) x J K=true)(hM:Mem M fr Z J st)(hx:AV Z x v):∃ r h',uQ (G.ty t) st.h (some v)=some (r,h')/\Eff M fr Z st r h' K:=by
 unfold FH at h;split at h;case h_2=>cases h
 rename_i ty hty;split at h;case h_2=>cases h
 rename_i hd hs;obtain⟨l,rfl⟩:=wB hs hx;obtain⟨Z1,l1,b1,m1⟩:=hM.add (ao:=.it x (0,0)) (o:=.strIter l 0) fun Z' hle=>.it (hx.mono hle) (eO (hle.i hM.vr.z0) 0);exact⟨.ptr st.h.next 0,st.h.add (.strIter l 0),(by unfold uQ;rw[hty];simp only;rw[hd]),Z1,_,_,l1,m1,.p b1 ⟨0,fun q=>absurd q (by simp[uv]),rfl⟩,h⟩
theorem Mem.iter (hM:Mem M fr Z J st){U s:Nat}{p:LE}(hb:J.mem.get U=some (s,.it a p)):∃ b l n,Z.blks[U]?=some b/\Z.objs[s]?=some [(b,.strIter l n)]/\st.h.tr.get b=some (.strIter l n)/\AV Z a (.str l)/\Num Z p (n:Int):=by
 obtain⟨b,hp,x1,x2,x3,x4⟩:=hM.hr.at' _ _ _ hb;cases x3 with
 |it h k=>exact⟨b,_,_,x1,x2,(x4 _ (aE ..)).1,h,k⟩
theorem KX {U s b:Nat}{p n:LE}{m:Nat}(h:itA U a p n J K=true)(hM:Mem M fr Z J st)(hb:J.mem.get U=some (s,.it a p))(h1:Z.blks[U]?=some b)(h2:Z.objs[s]?=some [(b,.strIter l m)])(h3:st.h.tr.get b=some (.strIter l m))(ha:AV Z a (.str l))(hp:Num Z p (m:Int))(hn:Num Z n (l.length:Int)):
  ∃ r h',wL st.h (some (.ptr b 0)) true=some (r,h')/\Eff M fr Z st r h' K:=by
 unfold itA at h;split at h;case h_2=>cases h
 obtain⟨J1,u1,k1⟩:=iu h hM.vr (.lt hp hn);by_cases q:m<l.length
 .have qz:((m:Int)<(l.length:Int)):=by omega
  simp only[qz,decide_true] at k1;obtain⟨w1,w2⟩:=AG q;generalize hd:Utf8.decode ⟨l.toArray⟩ m=cw at w1 w2;obtain⟨c,w⟩:=cw;obtain⟨Z2,J2,ec,u2,hc,_,_,k2⟩:=fM k1 u1.vr (c:Int) (fun e he=>by simp only[aq,aA,or_false] at he;subst he;exact⟨_,eO u1.vr.z0 _,by omega⟩) (fun e he=>nomatch he);obtain⟨Z3,J3,eq,u3,hq,_,_,k3⟩:=fM k2 u2.vr ((m+w:Nat):Int) (fun e he=>by
   simp only[aq,aA,or_false] at he;subst he;exact⟨_,(hp.mono u2.le).plus 1,by simp only at w1;omega⟩) (fun e he=>by
   simp only[aq,aA,or_false] at he;subst he;exact⟨_,hn.mono u2.le,by simp only at w2;omega⟩)
  have u:=(u1.trans u2).trans u3;have m3:=hM.up u;have hb3:J3.mem.get U=some (s,.it a p):=by rw[u.same.mem];exact hb
  obtain⟨Z4,l4,m4⟩:=m3.gG (ao':=.it a eq) (o':=.strIter l (m+w)) hb3 (u.le.b h1) (u.le.o h2) (.it (ha.mono u.le) hq);refine⟨.tuple [.bool true,.int .i64 (Int.ofNat m),.int .i32 (Int.ofNat c)],st.h.set b (some (.strIter l (m+w))),?_,Z4,_,_,u.le.trans l4,m4,.tp (.cons (.k _) (.cons (.i (((hp.mono u.le)).mono l4)) (.cons (.i (((hc.mono u3.le)).mono l4)) .nil))),k3⟩;unfold wL;simp only[h3,hd];rw[show Nat.blt m l.length=true from aH q];rfl
 .have qz:¬ ((m:Int)<(l.length:Int)):=by omega
  simp only[qz,decide_false] at k1;refine⟨.tuple [.bool false],st.h,?_,Z,J1,_,.refl _,hM.up u1,.tp (.cons (.k _) .nil),k1⟩;unfold wL;simp only[h3];rw[show Nat.blt m l.length=false by cases e:Nat.blt m l.length with
   |true=>exact absurd (az e) (by omega)
   |false=>rfl]
theorem Jv {isS:Bool}(h:Mw x isS J K=true)(hM:Mem M fr Z J st)(hx:AV Z x v):∃ r h',wL st.h (some v) isS=some (r,h')/\Eff M fr Z st r h' K:=by
 unfold Mw at h;split at h;case h_2=>cases h
 rename_i U o;split at h;case h_2=>cases h
 rename_i s a p q hb;simp only[ae,T.beq_true] at q;obtain⟨b,l,n,x1,x2,x3,x4,x5⟩:=hM.iter hb;cases hx with
 |@p _ _ b' off h1 h2=>
  rw[x1] at h1;cases h1;have ho:off=0:=by obtain⟨m,_,e⟩:=h2;rw[e,q.1,q.2];simp
  subst ho;split at h
  .rename_i l';cases x4;split at h
   .rename_i m c hc;unfold Aj at hc;split at hc;case h_2=>cases hc
    rename_i m' q1 q2;rw[T.beq_true] at q1;have hp:p=(0,Int.ofNat m'):=bQ q1 q2;have hmn:m'=n:=by have:=x5;rw[hp] at this;have:=(eO hM.vr.z0 (Int.ofNat m')).fn this;simp only[aN] at this;omega
    subst hmn;split at hc
    .rename_i cc hcc;split at hc;·rename_i qa;cases hc;rw[jb] at hcc;have qa:cc.toNat<128:=az qa;obtain⟨hlt,_⟩:=ai.1 hcc;obtain⟨Z4,l4,m4⟩:=hM.gG (ao':=.it (.k (.str l)) (0,Int.ofNat (Nat.succ m))) (o':=.strIter l (m+1)) hb x1 x2 (.it (.k _) (eO hM.vr.z0 _));refine⟨.tuple [.bool true,.int .i64 (Int.ofNat m),.int .i32 (Int.ofNat cc.toNat)],st.h.set b (some (.strIter l (m+1))),?_,Z4,_,_,l4,m4,.tp (.cons (.k _) (.cons (.k _) (.cons (.k _) .nil))),h⟩;unfold wL;simp only[x3,yo hcc qa];rw[show Nat.blt m l.length=true from aH hlt]
     .cases hc
    .cases hc
   .rename_i m hc;unfold Aj at hc;split at hc;case h_2=>cases hc
    rename_i m' q1 q2;rw[T.beq_true] at q1;have hp:p=(0,Int.ofNat m'):=bQ q1 q2;have hmn:m'=n:=by have:=x5;rw[hp] at this;have:=(eO hM.vr.z0 (Int.ofNat m')).fn this;simp only[aN] at this;omega
    subst hmn;split at hc;·split at hc<;>cases hc
    .rename_i hcc;rw[jb] at hcc;have hge:=bR.1 hcc;refine⟨.tuple [.bool false],st.h,?_,Z,J,_,.refl _,hM,.tp (.cons (.k _) .nil),h⟩;unfold wL;simp only[x3];rw[show Nat.blt m' l.length=false by cases e:Nat.blt m' l.length with
      |true=>exact absurd (az e) (by omega)
      |false=>rfl]
   .exact KX h hM hb x1 x2 x3 (.k _) x5 (eO hM.vr.z0 _)
  .rename_i j y;cases x4 with
   |s g1 g2=>exact KX h hM hb x1 x2 x3 (.s g1 g2) x5 ⟨_,g2,by simp⟩
  .cases h
def pB (G:Γ)(M:TH)(fr:FR)(Z:NV)(J:AS)(st:St)(op:Op)(rb:Option Nat)(K:A->AS->Bool):Prop:=
 match act G st.env.get op with
 |.val x=>∃ v,x=some v/\Res Z J v K
 |.rd f=>∃ v,(∀ h2:H,(∀ U b,rb=some U->Z.blks[U]?=some b->h2.tr.get b=st.h.tr.get b)->f h2=some v)/\Eff M fr Z st v st.h K
 |.al f=>Im M Z J f K
 |.ef f=>∃ v h',f st.h=some (v,h')/\Eff M fr Z st v h' K
 |.call _=>False
theorem pB.step {G:Γ}{call:ic}{o:Oper}{rb:Option Nat}(h:pB G M fr Z J st o.op rb K)(hM:Mem M fr Z J st):∃ v h',je G call st.env st.h o=some (v,h')/\Eff M fr Z st v h' K:=by
 unfold pB at h;unfold je;split at h;·rename_i x e;obtain⟨v,rfl,r⟩:=h;exact⟨v,st.h,by rw[e],r.eff hM⟩
 .rename_i f e;obtain⟨v,h1,r⟩:=h;exact⟨v,st.h,by rw[e];simp only[h1 st.h fun _ _ _ _=>rfl],r⟩
 .rename_i f e;obtain⟨o,v,h1,r⟩:=h.eff hM;exact⟨v,_,by rw[e];simp only[h1],r⟩
 .rename_i f e;obtain⟨v,h',h1,r⟩:=h;exact⟨v,h',by rw[e];exact h1,r⟩
 .exact h.elim
theorem M2 (h:RG ty x J K=true)(hv:VR Z J)(hx:AV Z x v):∃ r,Ov ty (some v)=some r/\Res Z J r K:=by
 unfold RG at h;split at h;case h_2=>cases h
 rename_i ty;split at h;·rename_i hd;cases hx;exact⟨_,by simp only[Ov,hd],.now hv (.k _) h⟩
 .rename_i hd;cases hx with
  |sl h1 h2 h3 h4=>
   cases h4 with
   |@kn _ n h4=>exact⟨.int .i64 (Int.ofNat n),by simp only[Ov,hd],.now hv (.i h4) h⟩
 .cases h
theorem AH {G:Γ}{c:Call}{b:Builtin}{rb:Option Nat}(hc:c.callee=.builtin b){l:List A}(hl:lq J c.args.toList=some l)(h:rf G b c.argTypes.toList l J K=true)(hM:Mem M fr Z J st):pB G M fr Z J st (.call c) rb K:=by
 obtain⟨vs,e1,e2⟩:=kP hM hl;have red:∀ (args:List Operand),c.args.toList=args->act G st.env.get (.call c)=fh G st.env.get b c.argTypes.toList args:=fun args ha=>by simp only[act,fX,hc,ha]
 unfold pB;unfold rf at h;split at h
 .rename_i t x hts;generalize ha:c.args.toList=args at *;match args,e1 with
  |[],e1=>cases e1;cases e2
  |y :: z :: r,e1=>
   cases e2 with
   |cons q1 q2=>cases q2;have:=(fQ e1).1;simp at this
  |[y],e1=>
   simp only[eX] at e1;split at e1;case h_2=>cases e1
   rename_i v hy;cases e1;cases e2 with
   |cons q1 q2=>obtain⟨r,r1,r2⟩:=M0 h hM q1;rw[red _ rfl,hts];exact⟨r,fun h2 _=>by rw[hy];exact r1 h2,r2⟩
 .obtain⟨r,r1,r2⟩:=CB h hM.vr e2;rw[red _ rfl];exact⟨r,by rw[e1];exact r1,r2⟩
 .obtain⟨r,r1,r2⟩:=CB h hM.vr e2;rw[red _ rfl];exact⟨r,by rw[e1];exact r1,r2⟩
 .rename_i t t' x y hts;generalize ha:c.args.toList=args at *;match args,e1 with
  |[],e1=>cases e1;cases e2
  |[a],e1=>
   have:=(fQ e1).1;cases e2 with
   |cons q1 q2=>cases q2 with
    |cons q3 q4=>simp at this
  |a :: b :: d :: r,e1=>
   have:=(fQ e1).1;cases e2 with
   |cons q1 q2=>cases q2 with
    |cons q3 q4=>cases q4;simp at this
  |[a,b],e1=>
   simp only[eX] at e1;split at e1;case h_2=>cases e1
   rename_i v hy;split at e1;case h_2=>cases e1
   rename_i r hr;split at hr;case h_2=>cases hr
   rename_i w hw;cases hr;cases e1;cases e2 with
   |cons q1 q2=>cases q2 with
    |cons q3 q4=>obtain⟨r,h',r1,r2⟩:=Dp h hM q1 q3;rw[red _ rfl,hts];exact⟨r,h',by rw[hy,hw];exact r1,r2⟩
 .rename_i t x y hts;generalize ha:c.args.toList=args at *;match args,e1 with
  |[],e1=>cases e1;cases e2
  |[a],e1=>
   have:=(fQ e1).1;cases e2 with
   |cons q1 q2=>cases q2 with
    |cons q3 q4=>simp at this
  |a :: b :: d :: r,e1=>
   have:=(fQ e1).1;cases e2 with
   |cons q1 q2=>cases q2 with
    |cons q3 q4=>cases q4;simp at this
  |[a,b],e1=>
   simp only[eX] at e1;split at e1;case h_2=>cases e1
   rename_i v hy;split at e1;case h_2=>cases e1
   rename_i r hr;split at hr;case h_2=>cases hr
   rename_i w hw;cases hr;cases e1;cases e2 with
   |cons q1 q2=>cases q2 with
    |cons q3 q4=>obtain⟨r,h',r1,r2⟩:=DG h hM q1 q3;rw[red _ rfl,hts];exact⟨r,h',by rw[hy,hw];exact r1,r2⟩
 .rename_i t x hts;generalize ha:c.args.toList=args at *;match args,e1 with
  |[],e1=>cases e1;cases e2
  |y :: z :: r,e1=>
   cases e2 with
   |cons q1 q2=>cases q2;have:=(fQ e1).1;simp at this
  |[y],e1=>
   simp only[eX] at e1;split at e1;case h_2=>cases e1
   rename_i v hy;cases e1;cases e2 with
   |cons q1 q2=>obtain⟨r,r1,r2⟩:=M2 h hM.vr q1;rw[red _ rfl,hts];exact⟨r,by rw[hy];exact r1,r2⟩
 .rename_i t x hts;generalize ha:c.args.toList=args at *;match args,e1 with
  |[],e1=>cases e1;cases e2
  |y :: z :: r,e1=>
   cases e2 with
   |cons q1 q2=>cases q2;have:=(fQ e1).1;simp at this
  |[y],e1=>
   simp only[eX] at e1;split at e1;case h_2=>cases e1
   rename_i v hy;cases e1;cases e2 with
   |cons q1 q2=>obtain⟨r,h',r1,r2⟩:=Fl h hM q1;rw[red _ rfl,hts];exact⟨r,h',by rw[hy];exact r1,r2⟩
 .cases h
theorem AI {ty:TY}{z:V}(hd:∀ m,ty.desc≠.interface m)(hz:ty.zero=some z):pJ asserted (some ty) (some .nili) true=some (.tuple [z,.bool false]):=by obtain⟨d,a,b,c,e⟩:=ty;simp only at hd hz;subst hz;cases d<;>first|exact absurd rfl (hd _)|rfl
theorem DQ {ty:TY}{t:TypeId}{ok:Bool}(hd:∀ m,ty.desc≠.interface m):pJ asserted (some ty) (some (.iface t v)) ok=match Nat.beq t asserted with
  |true=>match ok with
   |true=>some (.tuple [v,.bool true])
   |false=>some v
  |false=>match ok,ty.zero with
   |true,some z=>some (.tuple [z,.bool false])
   |_,_=>none:=by
 obtain⟨d,a,b,c,e⟩:=ty;simp only at hd;cases d<;>first|exact absurd rfl (hd _)|rfl
theorem DT {r:A}{ok:Bool}(h:Ai asserted ty a ok=some r)(ha:AV Z a v):∃ u,pJ asserted ty (some v) ok=some u/\AV Z r u:=by
 unfold Ai at h;split at h;case h_2=>cases h
 rename_i ty;split at h;·cases h
 .rename_i hd;cases ha;split at h;·rename_i z hz;cases h;exact⟨.tuple [z,.bool false],AI (fun m e=>hd m e) hz,.tp (.cons (Fm Z) (.cons (.k _) .nil))⟩
  .cases h
 .rename_i t a hd;cases ha with
  |@ifc _ _ v hv=>
   rw[DQ fun m e=>hd m e];cases q:Nat.beq t asserted with
   |true=>
    rw[q] at h;cases ok with
    |true=>cases h;exact⟨_,rfl,.tp (.cons hv (.cons (.k _) .nil))⟩
    |false=>cases h;exact⟨_,rfl,hv⟩
   |false=>
    rw[q] at h;cases ok with
    |true=>
     cases hz:ty.zero with
     |some z=>rw[hz] at h;cases h;exact⟨.tuple [z,.bool false],rfl,.tp (.cons (Fm Z) (.cons (.k _) .nil))⟩
     |none=>rw[hz] at h;cases h
    |false=>simp only at h;cases h
 .cases h
theorem mD {G:Γ}{op:Op}(h:Dy G op J K=true)(hM:Mem M fr Z J st):pB G M fr Z J st op (si J op) K:=by
 have val:∀ {x:Option V} {v:V},act G st.env.get op=.val x->x=some v->Res Z J v K->pB G M fr Z J st op (si J op) K:=fun {x v} e1 e2 r=>by unfold pB;rw[e1];exact⟨v,e2,r⟩
 unfold Dy at h;split at h;·obtain⟨a,a1,a2⟩:=eU h;obtain⟨v,v1,v2⟩:=eS hM a1;exact val rfl v1 (.now hM.vr v2 a2)
 .obtain⟨a,a1,a2⟩:=eU h;obtain⟨v,v1,v2⟩:=eS hM a1;exact val rfl v1 (.now hM.vr v2 a2)
 .obtain⟨c,c1,h⟩:=eU h;obtain⟨e,e1,h⟩:=eU h;obtain⟨v,v1,v2⟩:=eS hM c1;obtain⟨b,rfl,hb⟩:=yq e1 v2;obtain⟨J',u,k⟩:=iu h hM.vr hb;cases b with
  |true=>obtain⟨a,a1,a2⟩:=eU k;obtain⟨w,w1,w2⟩:=eS (hM.up u) a1;exact val rfl (by simp only[v1,Hp];exact w1) (.up u (.now u.vr w2 a2))
  |false=>obtain⟨a,a1,a2⟩:=eU k;obtain⟨w,w1,w2⟩:=eS (hM.up u) a1;exact val rfl (by simp only[v1,Hp];exact w1) (.up u (.now u.vr w2 a2))
 .rename_i t;exact EH h hM.vr
 .obtain⟨a,a1,h⟩:=eU h;obtain⟨v,v1,v2⟩:=eS hM a1;have:=Lu (M:=M) h hM.vr v2;rw[<- v1] at this;exact this
 .exact tU h hM
 .obtain⟨a,a1,h⟩:=eU h;obtain⟨b,b1,h⟩:=eU h;obtain⟨v,v1,v2⟩:=eS hM a1;obtain⟨w,w1,w2⟩:=eS hM b1;have:=vv (M:=M) h hM.vr v2 w2;rw[<- v1,<- w1] at this;exact this
 .obtain⟨a,a1,h⟩:=eU h;obtain⟨v,v1,v2⟩:=EJ a1 hM;exact val rfl v1 (.now hM.vr v2 h)
 .obtain⟨a,a1,h⟩:=eU h;obtain⟨v,v1,v2⟩:=eS hM a1;obtain⟨U,o,b,r,rfl,hU,r1,r2⟩:=zag h hM v2;refine⟨r,fun h2 hb=>?_,r2⟩;rw[v1];exact r1 h2 (hb U b (by unfold si;simp only[a1]) hU)
 .obtain⟨a,a1,h⟩:=eU h;obtain⟨b,b1,h⟩:=eU h;obtain⟨v,v1,v2⟩:=eS hM a1;obtain⟨w,w1,w2⟩:=eS hM b1;obtain⟨r,h',r1,r2⟩:=FU h hM v2 w2;exact⟨r,h',by rw[v1,w1];exact r1,r2⟩
 .obtain⟨a,a1,h⟩:=eU h;obtain⟨v,v1,v2⟩:=eS hM a1;obtain⟨r,r1,r2⟩:=M1 h hM v2;exact val rfl (by rw[v1];exact r1) r2
 .obtain⟨a,a1,h⟩:=eU h;obtain⟨b,b1,h⟩:=eU h;obtain⟨v,v1,v2⟩:=eS hM a1;obtain⟨w,w1,w2⟩:=eS hM b1;obtain⟨r,r1,r2⟩:=Nb h hM.vr v2 w2;exact val rfl (by rw[v1,w1];exact r1) r2
 .obtain⟨a,a1,h⟩:=eU h;obtain⟨v,v1,v2⟩:=eS hM a1;obtain⟨r,r1,r2⟩:=PB h hM.vr v2;exact val rfl (by rw[v1];exact r1) r2
 .split at h;·cases h
  rename_i q;obtain⟨a,a1,h⟩:=eU h;obtain⟨v,v1,v2⟩:=eS hM a1;obtain⟨r,r1,r2⟩:=JC h hM.vr v2;refine val (x:=AY _ _ _) ?_ r1 r2;simp only[act,q,v1]
 .split at h;case h_2=>cases h
  obtain⟨a,a1,h⟩:=eU h;obtain⟨c,c1,h⟩:=eU h;obtain⟨v,v1,v2⟩:=kP hM a1;obtain⟨w,w1,w2⟩:=kP hM c1;exact val rfl (by simp only[A8,v1,w1]) (.now hM.vr (.fn v2 w2) h)
 .obtain⟨a,a1,h⟩:=eU h;obtain⟨b,b1,h⟩:=eU h;obtain⟨v,v1,v2⟩:=eS hM a1;obtain⟨r,r1,r2⟩:=wC b1 v2;exact val rfl (by rw[v1];exact r1) (.now hM.vr r2 h)
 .obtain⟨a,a1,h⟩:=eU h;obtain⟨b,b1,h⟩:=eU h;obtain⟨v,v1,v2⟩:=eS hM a1;obtain⟨r,r1,r2⟩:=G2 b1 hM.vr v2;exact val rfl (by rw[v1];exact r1) (.now hM.vr r2 h)
 .obtain⟨a,a1,h⟩:=eU h;obtain⟨b,b1,h⟩:=eU h;obtain⟨v,v1,v2⟩:=eS hM a1;obtain⟨w,w1,w2⟩:=eS hM b1;obtain⟨r,r1,r2⟩:=wD h hM.vr v2 w2;exact val rfl (by rw[v1,w1];exact r1) r2
 .obtain⟨a,a1,h⟩:=eU h;obtain⟨b,b1,h⟩:=eU h;obtain⟨v,v1,v2⟩:=eS hM a1;obtain⟨w,w1,w2⟩:=eS hM b1;obtain⟨r,r1,r2⟩:=G3 h hM.vr v2 w2;exact val rfl (by rw[v1,w1];exact r1) r2
 .obtain⟨a,a1,h⟩:=eU h;obtain⟨l,l1,h⟩:=eU h;obtain⟨hi,hi1,h⟩:=eU h;obtain⟨m,m1,h⟩:=eU h;obtain⟨v,v1,v2⟩:=eS hM a1;obtain⟨lv,hl⟩:=wq hM l1;obtain⟨hv,hh⟩:=wq hM hi1;obtain⟨mv,hm⟩:=wq hM m1;obtain⟨r,r1,r2⟩:=GS h hM.vr v2 v1 hl hh hm;exact val rfl r1 r2
 .rename_i t x;obtain⟨a,a1,h⟩:=eU h;obtain⟨v,v1,v2⟩:=eS hM a1;split at h;case h_2=>cases h
  rename_i ty hty;split at h;·cases h
  rename_i q;refine val rfl (v:=.iface t v) ?_ (.now hM.vr (.ifc v2) h);rw[v1,hty];cases hd:ty.desc<;>(rw[hd] at q;first|cases q;done|simp only[CZ,hd])
 .obtain⟨a,a1,h⟩:=eU h;obtain⟨b,b1,h⟩:=eU h;obtain⟨v,v1,v2⟩:=eS hM a1;obtain⟨r,r1,r2⟩:=DT b1 v2;exact val rfl (by rw[v1];exact r1) (.now hM.vr r2 h)
 .obtain⟨a,a1,h⟩:=eU h;obtain⟨v,v1,v2⟩:=eS hM a1;split at h;case h_2=>cases h
  obtain⟨b,b1,h⟩:=eU h;cases v2 with
  |tp q=>obtain⟨r,r1,r2⟩:=q.nth b1;exact val rfl (by rw[v1];exact r1) (.now hM.vr r2 h)
 .split at h;case h_2=>cases h
  exact An h
 .obtain⟨a,a1,h⟩:=eU h;obtain⟨b,b1,h⟩:=eU h;obtain⟨v,v1,v2⟩:=eS hM a1;obtain⟨w,w1,w2⟩:=eS hM b1;obtain⟨U,b',r,rfl,hU,r1,r2⟩:=DE h hM v2 w2;refine⟨r,fun h2 hb=>?_,r2⟩;rw[v1,w1];exact r1 h2 (hb U b' (by unfold si;simp only[a1]) hU)
 .obtain⟨a,a1,h⟩:=eU h;obtain⟨b,b1,h⟩:=eU h;obtain⟨c,c1,h⟩:=eU h;obtain⟨v,v1,v2⟩:=eS hM a1;obtain⟨w,w1,w2⟩:=eS hM b1;obtain⟨u,u1,u2⟩:=eS hM c1;obtain⟨r,h',r1,r2⟩:=uD h hM v2 w2 u2;exact⟨r,h',by rw[v1,w1,u1];exact r1,r2⟩
 .split at h;case h_2=>cases h
  rename_i c b hc;obtain⟨l,l1,h⟩:=eU h;exact AH hc l1 h hM
 .obtain⟨a,a1,h⟩:=eU h;obtain⟨b,b1,h⟩:=eU h;obtain⟨v,v1,v2⟩:=eS hM a1;obtain⟨w,w1,w2⟩:=eS hM b1;obtain⟨r,h',r1,r2⟩:=F3 h hM v2 w2;exact⟨r,h',by rw[v1,w1];exact r1,r2⟩
 .obtain⟨a,a1,h⟩:=eU h;obtain⟨b,b1,h⟩:=eU h;obtain⟨c,c1,h⟩:=eU h;obtain⟨v,v1,v2⟩:=eS hM a1;obtain⟨w,w1,w2⟩:=eS hM b1;obtain⟨u,u1,u2⟩:=eS hM c1;obtain⟨r,h',r1,r2⟩:=ud h hM v2 w2 u2;exact⟨r,h',by rw[v1,w1,u1];exact r1,r2⟩
 .obtain⟨a,a1,h⟩:=eU h;obtain⟨b,b1,h⟩:=eU h;obtain⟨c,c1,h⟩:=eU h;obtain⟨v,v1,v2⟩:=eS hM a1;obtain⟨w,w1,w2⟩:=eS hM b1;obtain⟨u,u1,u2⟩:=eS hM c1;obtain⟨r,h',r1,r2⟩:=uD h hM v2 w2 u2;exact⟨r,h',by rw[v1,w1,u1];exact r1,r2⟩
 .obtain⟨a,a1,h⟩:=eU h;obtain⟨v,v1,v2⟩:=eS hM a1;obtain⟨r,h',r1,r2⟩:=GI h hM v2;exact⟨r,h',by rw[v1];exact r1,r2⟩
 .obtain⟨a,a1,h⟩:=eU h;obtain⟨v,v1,v2⟩:=eS hM a1;obtain⟨r,h',r1,r2⟩:=Jv h hM v2;exact⟨r,h',by rw[v1];exact r1,r2⟩
 .cases h
theorem M3 {G:Γ}{call:ic}{o:Oper}(h:Dy G o.op J K=true)(hM:Mem M fr Z J st):∃ v h',je G call st.env st.h o=some (v,h')/\Eff M fr Z st v h' K:=(mD h hM).step hM
end
end Go.Ae
namespace Go.Ae
open Go.Ev
def SE (Z Z':NV)(e e':LE):Prop:=∀ z,Num Z e z↔Num Z' e' z
def SK (Z Z':NV)(k k':EK):Prop:=∀ v,KV Z k v↔KV Z' k' v
inductive SKs (Z Z':NV):List EK->List EK->Prop
 |nil:SKs Z Z' [] []
 |cons {k k':EK} {l l':List EK} (h:SK Z Z' k k') (q:SKs Z Z' l l'):SKs Z Z' (k :: l) (k' :: l')
mutual
inductive SA (Z Z':NV):A->A->Prop
 |k (v:V):SA Z Z' (.k v) (.k v)
 |i {k:IntKind} {e e':LE} (h:SE Z Z' e e'):SA Z Z' (.i k e) (.i k e')
 |b {e e':BE} (h:∀ b,BV Z e b↔BV Z' e' b):SA Z Z' (.b e) (.b e')
 |s {a b:A} (p:plain a=true) (p':plain b=true) (h:∀ v,AV Z a v↔AV Z' b v):SA Z Z' a b
 |p {U U':Nat} {o o':Off} (h:Z.blks[U]?=Z'.blks[U']?) (q:∀ n,pC Z o n↔pC Z' o' n):SA Z Z' (.p U o) (.p U' o')
 |sl {U U':Nat} {o o':Off} {n n':LE} {c c':BG} (h:Z.blks[U]?=Z'.blks[U']?) (q:∀ n,pC Z o n↔pC Z' o' n) (r:SE Z Z' n n') (t:∀ x,xj Z c x↔xj Z' c' x):SA Z Z' (.sl U o n c) (.sl U' o' n' c')
 |su {U U' w:Nat} {N N' n n':LE} (h:Z.blks[U]?=Z'.blks[U']?) (q:SE Z Z' N N') (r:SE Z Z' n n'):SA Z Z' (.su U w N n) (.su U' w N' n')
 |m {U U':Nat} (h:Z.blks[U]?=Z'.blks[U']?):SA Z Z' (.m U) (.m U')
 |fn {f:FuncId} {a a' c c':List A} (h:SAs Z Z' a a') (q:SAs Z Z' c c'):SA Z Z' (.fn f a c) (.fn f a' c')
 |yd {U U':Nat} (h:Z.blks[U]?=Z'.blks[U']?):SA Z Z' (.yd U) (.yd U')
 |ifc {t:TypeId} {a a':A} (h:SA Z Z' a a'):SA Z Z' (.ifc t a) (.ifc t a')
 |ag {l l':List A} (h:SAs Z Z' l l'):SA Z Z' (.ag l) (.ag l')
 |tp {l l':List A} (h:SAs Z Z' l l'):SA Z Z' (.tp l) (.tp l')
 |rw {ks ks':List EK} {n n':LE} (h:SKs Z Z' ks ks') (q:SE Z Z' n n'):SA Z Z' (.rw ks n none) (.rw ks' n' none)
inductive SAs (Z Z':NV):List A->List A->Prop
 |nil:SAs Z Z' [] []
 |cons {a a':A} {l l':List A} (h:SA Z Z' a a') (q:SAs Z Z' l l'):SAs Z Z' (a :: l) (a' :: l')
end
theorem SKs.symm {Z Z':NV}{l l':List EK}(h:SKs Z Z' l l'):SKs Z' Z l' l:=by
 induction h with
 |nil=>exact .nil
 |cons a _ ih=>exact .cons (fun v=>(a v).symm) ih
theorem SKs.at {Z Z':NV}{l l':List EK}(h:SKs Z Z' l l'):l'.length=l.length/\∀ (i:Nat) (k:EK),l[i]?=some k->∃ k',l'[i]?=some k'/\SK Z Z' k k':=by
 induction h with
 |nil=>exact⟨rfl,fun i k h=>by simp at h⟩
 |cons a _ ih=>
  refine⟨by simp[ih.1],fun i k hk=>?_⟩;cases i with
  |zero=>simp at hk;subst hk;exact⟨_,rfl,a⟩
  |succ i=>obtain⟨k',x,y⟩:=ih.2 i k (by simpa using hk);exact⟨k',by simpa using x,y⟩
mutual
theorem SA.symm {Z Z':NV}:∀ {a a':A},SA Z Z' a a'->SA Z' Z a' a
 |_,_,.k v=>.k v
 |_,_,.i h=>.i fun z=>(h z).symm
 |_,_,.b h=>.b fun z=>(h z).symm
 |_,_,.s p q h=>.s q p fun z=>(h z).symm
 |_,_,.p h q=>.p h.symm fun z=>(q z).symm
 |_,_,.sl h q r t=>.sl h.symm (fun z=>(q z).symm) (fun z=>(r z).symm) fun z=>(t z).symm
 |_,_,.su h q r=>.su h.symm (fun z=>(q z).symm) fun z=>(r z).symm
 |_,_,.m h=>.m h.symm
 |_,_,.fn h q=>.fn (SAs.symm h) (SAs.symm q)
 |_,_,.yd h=>.yd h.symm
 |_,_,.ifc h=>.ifc (SA.symm h)
 |_,_,.ag h=>.ag (SAs.symm h)
 |_,_,.tp h=>.tp (SAs.symm h)
 |_,_,.rw h q=>.rw h.symm fun z=>(q z).symm
theorem SAs.symm {Z Z':NV}:∀ {a a':List A},SAs Z Z' a a'->SAs Z' Z a' a
 |_,_,.nil=>.nil
 |_,_,.cons h q=>.cons (SA.symm h) (SAs.symm q)
end
theorem SA.plain {Z Z':NV}{a a':A}(h:SA Z Z' a a')(p:Ae.plain a=true):Ae.plain a'=true:=by cases h<;>first|exact p|rfl|assumption|cases p
theorem SA.wide {Z Z':NV}{a a':A}(h:SA Z Z' a a'){w:Nat}(q:WV Z a w):WV Z' a' w:=by
 cases q with
 |one q=>
  refine .one fun ks n f e=>?_;subst e;cases h with
  |s p p' _=>cases p'
  |rw _ _=>exact q _ _ _ rfl
 |rw hn _=>
  cases h with
  |s p p' _=>cases p
  |rw hk he=>rw[<- hk.at.1];exact .rw ((he _).1 hn) fun _ _ e=>nomatch e
theorem SAs.len {Z Z':NV}{l l':List A}(h:SAs Z Z' l l'){n:Nat}(q:gp Z l n):gp Z' l' n:=by
 induction q generalizing l' with
 |nil=>cases h;exact .nil
 |cons a _ ih=>cases h with
  |cons h1 h2=>exact .cons (h1.wide a) (ih h2)
mutual
theorem SA.av {Z Z':NV}:∀ {a a':A} {v:V},SA Z Z' a a'->AV Z a v->AV Z' a' v
 |_,_,_,.s _ _ h,q=>(h _).1 q
 |_,_,_,.k v,q=>by cases q;exact .k _
 |_,_,_,.i h,.i q=>.i ((h _).1 q)
 |_,_,_,.b h,.b q=>.b ((h _).1 q)
 |_,_,_,.p h k,.p q r=>.p (by rw[<- h];exact q) ((k _).1 r)
 |_,_,_,.sl h k l m,.sl q r s t=>.sl (by rw[<- h];exact q) ((k _).1 r) ((l _).1 s) ((m _).1 t)
 |_,_,_,.su h k l,.su q r s a b c=>.su (by rw[<- h];exact q) ((k _).1 r) ((l _).1 s) a b c
 |_,_,_,.su _ _ l,.su0 q=>.su0 ((l _).1 q)
 |_,_,_,.m h,.m q=>.m (by rw[<- h];exact q)
 |_,_,_,.fn h k,.fn q r=>.fn (SAs.av h q) (SAs.av k r)
 |_,_,_,.yd h,.yd q=>.yd (by rw[<- h];exact q)
 |_,_,_,.ifc h,.ifc q=>.ifc (SA.av h q)
 |_,_,_,.ag h,.ag q t r=>.ag (h.len q) t fun i c x=>SAs.ca h (r i c x)
 |_,_,_,.tp h,.tp q=>.tp (SAs.av h q)
theorem SAs.av {Z Z':NV}:∀ {l l':List A} {v:List V},SAs Z Z' l l'->AVs Z l v->AVs Z' l' v
 |_,_,_,.nil,.nil=>.nil
 |_,_,_,.cons h k,.cons q r=>.cons (SA.av h q) (SAs.av k r)
theorem SAs.ca {Z Z':NV}:∀ {l l':List A} {i:Nat} {c:V},SAs Z Z' l l'->CA Z l i c->CA Z' l' i c
 |_,_,_,_,.cons h k,.here p q=>.here (h.plain p) (SA.av h q)
 |_,_,_,_,.cons h k,.skip q r=>.skip (h.wide q) (SAs.ca k r)
 |_,_,_,_,hs,.row a b d e f=>by
  cases hs with
  |cons h k=>
   cases h with
   |s p _ _=>cases p
   |rw hk he=>obtain⟨k',x,y⟩:=hk.at.2 _ _ e;exact .row ((he _).1 a) (by rw[hk.at.1];exact b) (fun _ _ e=>nomatch e) (k:=k') (by rw[hk.at.1];exact x) ((y _).1 f)
 |_,_,_,_,hs,.foc a b d e f g r=>by
  cases hs with
  |cons h k=>
   cases h with
   |s p _ _=>cases p
end
structure TR (X:TA)(Z Z':NV):Prop where
 nx:1<=X.nx
 z:Z.ints[0]?=some 0
 z':Z'.ints[0]?=some 0
 i0:∀ x:Nat,x<X.nx->Z.ints[x]?=Z'.ints[x]?
 i1:∀ (j:Nat) (r:RV),X.i[j]?=some r->match r with
  |.e p=>∃ y,Z.ints[X.nx+j]?=some y/\Num Z' p y
  |.b e=>∃ b:Bool,Z.ints[X.nx+j]?=some (if b then 1 else 0)/\BV Z' e b
 s0:∀ x:Nat,x<X.ns->Z.strs[x]?=Z'.strs[x]?
 s1:∀ (j:Nat) (a:A),X.s[j]?=some a->∃ s,Z.strs[X.ns+j]?=some s/\match a with
  |.s i _=>Z'.strs[i]?=some s
  |.k v=>v=.str s
  |_=>False
 b0:∀ x:Nat,x<X.nb->Z.blks[x]?=Z'.blks[x]?
 b1:∀ (j U:Nat),X.b[j]?=some U->∃ b,Z.blks[X.nb+j]?=some b/\Z'.blks[U]?=some b
theorem GY {a b:Nat}(h:Nat.blt a b=false):b<=a:=by
 rcases Nat.lt_or_ge a b with q|q;·rw[show Nat.blt a b=true from aH q] at h;cases h
 .exact q
theorem BV.fn {Z:NV}{e:BE}{a b:Bool}(h:BV Z e a)(k:BV Z e b):a=b:=by
 induction h generalizing b with
 |lit=>cases k;rfl
 |lt x y=>cases k with
  |lt x' y'=>rw[x.fn x',y.fn y']
 |eq x y=>cases k with
  |eq x' y'=>rw[x.fn x',y.fn y']
 |not _ ih=>cases k with
  |not q=>rw[ih q]
section
variable {X:TA}{Z Z':NV}(h:TR X Z Z')
theorem TR.le (h:TR X Z Z'){e e':LE}(q:X.le e=some e'):SE Z Z' e e':=by
 unfold TA.le at q;split at q;·rename_i g;cases q;have:=h.i0 _ (show e.1<X.nx from az g);exact fun z=>⟨fun⟨y,a,b⟩=>⟨y,by rw[<- this];exact a,b⟩,fun⟨y,a,b⟩=>⟨y,by rw[this];exact a,b⟩⟩
 .rename_i g;have g:=GY g;split at q
  .rename_i p hp;cases q;rw[nf] at hp;obtain⟨y,y1,y2⟩:=h.i1 _ _ hp;have e1:Nat.sub e.1 X.nx=e.1 - X.nx:=rfl;rw[show X.nx+Nat.sub e.1 X.nx=e.1 by omega] at y1;intro z;constructor;·rintro⟨w,a,b⟩;rw[y1] at a;cases a;rw[b];exact y2.plus e.2
   .intro k;have:=(y2.plus e.2).fn k;exact⟨y,y1,this.symm⟩
  .cases q
theorem TR.ole (h:TR X Z Z'){e e':Option LE}(q:X.ole e=some e'):(∀ z,Low Z e z↔Low Z' e' z)/\∀ z,ug Z e z↔ug Z' e' z:=by
 unfold TA.ole at q;split at q;·cases q;exact⟨fun z=>⟨fun _ _ h=>(nomatch h),fun _ _ h=>nomatch h⟩,fun z=>⟨fun _ _ h=>(nomatch h),fun _ _ h=>nomatch h⟩⟩
 .split at q
  .rename_i p hp;cases q;have:=h.le hp;refine⟨fun z=>⟨fun k p he=>?_,fun k p he=>?_⟩,fun z=>⟨fun k p he=>?_,fun k p he=>?_⟩⟩;all_goals
    cases he;obtain⟨a,a1,a2⟩:=k _ rfl
   .exact⟨a,(this a).1 a1,a2⟩
   .exact⟨a,(this a).2 a1,a2⟩
   .exact⟨a,(this a).1 a1,a2⟩
   .exact⟨a,(this a).2 a1,a2⟩
  .cases q
theorem TR.ek (h:TR X Z Z'){k k':EK}(q:X.ek k=some k'):SK Z Z' k k':=by
 unfold TA.ek at q;split at q
 .split at q
  .rename_i h1 h2;cases q;intro v;constructor
   .intro w;cases w with
    |int r l u=>exact .int r (((h.ole h1).1 _).1 l) (((h.ole h2).2 _).1 u)
   .intro w;cases w with
    |int r l u=>exact .int r (((h.ole h1).1 _).2 l) (((h.ole h2).2 _).2 u)
  .cases q
 .cases q
 .rename_i hne hne2;cases q;intro v;constructor
  .intro w;cases w with
   |int=>exact absurd rfl (hne _ _ _)
   |bool b=>exact .bool b
   |str s=>exact .str s
   |cst v=>exact .cst v
   |re=>exact absurd rfl (hne2 _ _ _)
   |re0=>exact absurd rfl (hne2 _ _ _)
   |stb q=>exact .stb q
  .intro w;cases w with
   |int=>exact absurd rfl (hne _ _ _)
   |bool b=>exact .bool b
   |str s=>exact .str s
   |cst v=>exact .cst v
   |re=>exact absurd rfl (hne2 _ _ _)
   |re0=>exact absurd rfl (hne2 _ _ _)
   |stb q=>exact .stb q
theorem TR.eks (h:TR X Z Z'):∀ {l l':List EK},eX X.ek l=some l'->SKs Z Z' l l'
 |[],l',q=>by cases q;exact .nil
 |k :: l,l',q=>by
  simp only[eX] at q;split at q
  .rename_i k1 h1;split at q;·rename_i r h2;cases q;exact .cons (h.ek h1) (TR.eks h h2)
   .cases q
  .cases q
theorem TR.be (h:TR X Z Z'):∀ {e e':BE},X.be e=some e'->∀ b,BV Z e b↔BV Z' e' b
 |.lit b,e',q=>by cases q;exact fun c=>⟨fun k=>by cases k;exact .lit _,fun k=>by cases k;exact .lit _⟩
 |.not e,e',q=>by
  simp only[TA.be] at q;split at q
  .rename_i p hp;cases q;exact fun c=>⟨fun k=>by cases k with
    |not k=>exact .not ((TR.be h hp _).1 k),fun k=>by cases k with
    |not k=>exact .not ((TR.be h hp _).2 k)⟩
  .cases q
 |.eq x y,e',q=>by
  simp only[TA.be] at q;split at q
  .rename_i p r h1 h2;cases q;exact fun c=>⟨fun k=>by cases k with
    |eq a b=>exact .eq ((h.le h1 _).1 a) ((h.le h2 _).1 b),fun k=>by cases k with
    |eq a b=>exact .eq ((h.le h1 _).2 a) ((h.le h2 _).2 b)⟩
  .cases q
 |.lt x y,e',q=>by
  simp only[TA.be] at q;split at q
  .rename_i e g hn;cases q;simp only[isZ,ae,T.beq_true,iT,bw] at g;have g2:=GY g.2;rw[nf] at hn;obtain⟨b,b1,b2⟩:=h.i1 _ _ hn;have e1:Nat.sub y.1 X.nx=y.1 - X.nx:=rfl;rw[show X.nx+Nat.sub y.1 X.nx=y.1 by omega] at b1;have hx:Num Z x 0:=⟨0,by rw[g.1.1.1];exact h.z,by rw[g.1.1.2];rfl⟩;have hy:Num Z y (if b then 1 else 0):=⟨_,b1,by rw[g.1.2];simp⟩;have key:BV Z (.lt x y) b:=by
    have:=BV.lt hx hy;cases b<;>exact this
   exact fun c=>⟨fun k=>by rw[<- key.fn k];exact b2,fun k=>by rw[<- b2.fn k];exact key⟩
  .split at q
   .rename_i p r h1 h2;cases q;exact fun c=>⟨fun k=>by cases k with
     |lt a b=>exact .lt ((h.le h1 _).1 a) ((h.le h2 _).1 b),fun k=>by cases k with
     |lt a b=>exact .lt ((h.le h1 _).2 a) ((h.le h2 _).2 b)⟩
   .cases q
theorem TR.off (h:TR X Z Z'){o o':Off}(q:X.off o=some o'):∀ n,pC Z o n↔pC Z' o' n:=by
 unfold TA.off at q;split at q
 .rename_i g;rw[T.beq_true] at g;cases q;intro n;constructor;·rintro⟨m,a,b⟩;exact⟨0,fun q=>absurd rfl q,by rw[b,g];simp⟩
  .rintro⟨m,a,b⟩;exact⟨0,fun q=>absurd g q,by rw[b];simp⟩
 .split at q
  .rename_i e he;cases q;intro n;constructor;·rintro⟨m,a,b⟩;exact⟨m,fun q=>(h.le he _).1 (a q),b⟩
   .rintro⟨m,a,b⟩;exact⟨m,fun q=>(h.le he _).2 (a q),b⟩
  .cases q
theorem TR.cap (h:TR X Z Z'){c c':BG}(q:X.cap c=some c'):∀ x,xj Z c x↔xj Z' c' x:=by
 unfold TA.cap at q;split at q
 .split at q
  .rename_i he;cases q;intro x;constructor
   .intro k;cases k with
    |kn a=>exact .kn ((h.le he _).1 a)
   .intro k;cases k with
    |kn a=>exact .kn ((h.le he _).2 a)
  .cases q
 .split at q
  .rename_i he;cases q;intro x;constructor
   .intro k;cases k with
    |al a=>exact .al ((h.le he _).1 a)
   .intro k;cases k with
    |al a=>exact .al ((h.le he _).2 a)
  .cases q
theorem TR.blk (h:TR X Z Z'){U U':Nat}(q:X.blk U=some U'):Z.blks[U]?=Z'.blks[U']?:=by
 unfold TA.blk at q;split at q;·rename_i g;cases q;exact h.b0 _ (az g)
 .rename_i g;have g:=GY g;rw[nf] at q;obtain⟨b,b1,b2⟩:=h.b1 _ _ q;have e1:Nat.sub U X.nb=U - X.nb:=rfl;rw[show X.nb+Nat.sub U X.nb=U by omega] at b1;rw[b1,b2]
mutual
theorem TR.a (h:TR X Z Z'):∀ {a a':A},X.a a=some a'->SA Z Z' a a'
 |.k v,_,q=>by simp only[TA.a] at q;cases q;exact .k v
 |.i k e,_,q=>by
  simp only[TA.a] at q;split at q;·rename_i he;cases q;exact .i (h.le he)
  .cases q
 |.b e,_,q=>by
  simp only[TA.a] at q;split at q;·rename_i he;cases q;exact .b (h.be he)
  .cases q
 |.s j x,_,q=>by
  simp only[TA.a] at q;split at q
  .rename_i g;cases q;simp only[ae] at g;have e1:=h.s0 _ (show j<X.ns from az g.1);have e2:=h.i0 _ (show x<X.nx from az g.2);exact .s rfl rfl fun v=>⟨fun k=>by cases k with
    |s a b=>exact .s (by rw[<- e1];exact a) (by rw[<- e2];exact b),fun k=>by cases k with
    |s a b=>exact .s (by rw[e1];exact a) (by rw[e2];exact b)⟩
  .split at q;·cases q
   rename_i g;have g:=GY g;have ej:Nat.sub j X.ns=j - X.ns:=rfl;split at q
   .rename_i j' _ e hn he;split at q;case h_2=>cases q
    rename_i g2;cases q;simp only[iT] at g2;rw[nf] at hn;obtain⟨s,s1,s2⟩:=h.s1 _ _ hn;rw[show X.ns+Nat.sub j X.ns=j by omega] at s1;have ee:e=(e.1,0):=bQ rfl g2;refine .s rfl rfl fun v=>⟨fun k=>?_,fun k=>?_⟩
    .cases k with
     |s a b=>rw[s1] at a;cases a;obtain⟨y,y1,y2⟩:=(h.le he (s.length:Int)).1 ⟨_,b,by simp⟩;exact .s s2 (by rw[y1,y2,g2];simp)
    .cases k with
     |s a b=>have s2:Z'.strs[j']?=some s:=s2;rw[s2] at a;cases a;obtain⟨y,y1,y2⟩:=(h.le he (s.length:Int)).2 (by rw[ee];exact⟨_,b,by simp⟩);exact .s s1 (by rw[y1,y2];simp)
   .rename_i l e hn he;split at q;case h_2=>cases q
    rename_i g2;cases q;simp only[ae,T.beq_true,iT] at g2;rw[nf] at hn;obtain⟨s,s1,s2⟩:=h.s1 _ _ hn;rw[show X.ns+Nat.sub j X.ns=j by omega] at s1;cases s2;have ee:e=(0,Int.ofNat l.length):=bQ g2.1 g2.2;refine .s rfl rfl fun v=>⟨fun k=>?_,fun k=>?_⟩
    .cases k with
     |s a b=>rw[s1] at a;cases a;exact .k _
    .cases k;have:=(h.le he (l.length:Int)).2 (by rw[ee];exact eO h.z' _);obtain⟨y,y1,y2⟩:=this;exact .s s1 (by rw[y1,y2];simp)
   .cases q
 |.p U o,_,q=>by
  simp only[TA.a] at q;split at q;·rename_i h1 h2;cases q;exact .p (h.blk h1) (h.off h2)
  .cases q
 |.sl U o n c,_,q=>by
  simp only[TA.a] at q;split at q;·rename_i h1 h2 h3 h4;cases q;exact .sl (h.blk h1) (h.off h2) (h.le h3) (h.cap h4)
  .cases q
 |.su U w N n,_,q=>by
  simp only[TA.a] at q;split at q;·rename_i h1 h2 h3;cases q;exact .su (h.blk h1) (h.le h2) (h.le h3)
  .cases q
 |.sn U x n c,_,q=>by
  simp only[TA.a] at q;split at q
  .rename_i h1 h2 h3 h4;cases q;exact .s rfl rfl fun v=>⟨fun k=>by cases k with
    |sn a b c=>exact .sn ((h.le h2 _).1 a) ((h.le h3 _).1 b) ((h.le h4 _).1 c)
    |sn0 a b=>exact .sn0 ((h.le h3 _).1 a) ((h.le h4 _).1 b),fun k=>by cases k with
    |sn a b c=>exact .sn ((h.le h2 _).2 a) ((h.le h3 _).2 b) ((h.le h4 _).2 c)
    |sn0 a b=>exact .sn0 ((h.le h3 _).2 a) ((h.le h4 _).2 b)⟩
  .cases q
 |.re ..,_,q=>by simp only[TA.a] at q;cases q
 |.m U,_,q=>by
  simp only[TA.a] at q;split at q;·rename_i h1;cases q;exact .m (h.blk h1)
  .cases q
 |.fn f a c,_,q=>by
  simp only[TA.a] at q;split at q;·rename_i h1 h2;cases q;exact .fn (TR.as h h1) (TR.as h h2)
  .cases q
 |.yd U,_,q=>by
  simp only[TA.a] at q;split at q;·rename_i h1;cases q;exact .yd (h.blk h1)
  .cases q
 |.ifc t a,_,q=>by
  simp only[TA.a] at q;split at q;·rename_i h1;cases q;exact .ifc (TR.a h h1)
  .cases q
 |.ag l,_,q=>by
  simp only[TA.a] at q;split at q;·rename_i h1;cases q;exact .ag (TR.as h h1)
  .cases q
 |.tp l,_,q=>by
  simp only[TA.a] at q;split at q;·rename_i h1;cases q;exact .tp (TR.as h h1)
  .cases q
 |.rw ks n none,_,q=>by
  simp only[TA.a] at q;split at q;·rename_i h1 h2;cases q;exact .rw (h.eks h1) (h.le h2)
  .cases q
 |.rw ks n (some _),_,q=>by simp only[TA.a] at q;cases q
theorem TR.as (h:TR X Z Z'):∀ {a a':List A},X.as a=some a'->SAs Z Z' a a'
 |[],_,q=>by simp only[TA.as] at q;cases q;exact .nil
 |a :: l,_,q=>by
  simp only[TA.as] at q;split at q;·rename_i h1 h2;cases q;exact .cons (TR.a h h1) (TR.as h h2)
  .cases q
end
end
section
variable {Z:NV}{z:ZN}(hz:ZR Z z)(h0:Z.ints[0]?=some 0)
theorem fc (hz:ZR Z z)(h0:Z.ints[0]?=some 0){p q:LE}(h:eqQ z p q=true){a:Int}(ha:Num Z p a):Num Z q a:=by
 simp only[eqQ,bf,ae,T.beq_true,iT] at h;rcases h with⟨h1,h2⟩|⟨h1,h2⟩
 .have:p=q:=bQ h1 h2;rw[<- this];exact ha
 .obtain⟨b,b1,b2⟩:=mU hz h0 h1 ha;have:=eV hz h0 h2 b1 ha;have:a=b:=by omega
  rw[this];exact b1
theorem PN (hz:ZR Z z)(h0:Z.ints[0]?=some 0){a b:Off}(h:Q0 z a b=true){n:Nat}(ha:pC Z a n):pC Z b n:=by
 simp only[Q0,ae,bf,T.beq_true] at h;obtain⟨⟨h1,h2⟩,h3⟩:=h;obtain⟨m,m1,m2⟩:=ha;rcases h3 with h3|h3
 .exact⟨0,fun q=>absurd (by rw[<- h2];exact h3) q,by rw[m2,h3,<- h1];simp⟩
 .by_cases g:a.st=0;·exact⟨0,fun q=>absurd (by rw[<- h2];exact g) q,by rw[m2,g,<- h1];simp⟩
  .exact⟨m,fun _=>fc hz h0 h3 (m1 g),by rw[m2,<- h1,<- h2]⟩
theorem Sz (hz:ZR Z z)(h0:Z.ints[0]?=some 0){a b:BG}(h:eqC z a b=true){c:Cap}(ha:xj Z a c):xj Z b c:=by
 unfold eqC at h;split at h
 .cases ha with
  |kn q=>exact .kn (fc hz h0 h q)
 .simp only[ae,T.beq_true] at h;cases ha with
  |al q=>rw[h.2];exact .al (fc hz h0 h.1 q)
 .cases h
theorem PO:∀ {a b:BE},eqB a b=true->a=b
 |.lit a,b,h=>by
  cases b<;>simp only[eqB] at h<;>first|cases h;done|skip
  rw[eq_of_beq h]
 |.lt x y,b,h=>by
  cases b<;>simp only[eqB] at h<;>first|cases h;done|skip
  simp only[ae,T.beq_true,iT] at h;rw[show x=_ from bQ h.1.1.1 h.1.1.2,show y=_ from bQ h.1.2 h.2]
 |.eq x y,b,h=>by
  cases b<;>simp only[eqB] at h<;>first|cases h;done|skip
  simp only[ae,T.beq_true,iT] at h;rw[show x=_ from bQ h.1.1.1 h.1.1.2,show y=_ from bQ h.1.2 h.2]
 |.not a,b,h=>by
  cases b<;>simp only[eqB] at h<;>first|cases h;done|skip
  rw[PO h]
mutual
theorem yw (hz:ZR Z z)(h0:Z.ints[0]?=some 0):∀ {a b:A},uj z a b=true->∀ {v:V},AV Z a v->AV Z b v
 |.k u,b,h,v,ha=>by
  cases ha;simp only[uj] at h;split at h;·have:=nu h;subst this;exact .k _
  .split at h;·simp only[ae,decide_eq_true_eq] at h;rw[h.1];exact .i (fc hz h0 h.2 (eO h0 _))
   .cases h
  .split at h;·have:=eq_of_beq h;subst this;exact .b (.lit _)
   .cases h
  .cases h
 |.i k e,b,h,v,ha=>by
  cases ha with
  |i hn=>
   simp only[uj] at h;split at h;·simp only[ae,decide_eq_true_eq] at h;rw[h.1];exact .i (fc hz h0 h.2 hn)
   .simp only[ae,decide_eq_true_eq] at h;rw[h.1];rw[(fc hz h0 h.2 hn).fn (eO h0 _)];exact .k _
   .cases h
 |.b e,b,h,v,ha=>by
  simp only[uj] at h;split at h;·have:=PO h;subst this;exact ha
  .cases h
 |.s j x,b,h,v,ha=>by
  simp only[uj] at h;split at h;·simp only[ae,T.beq_true] at h;rw[<- h.1,<- h.2];exact ha
  .cases h
 |.p U o,b,h,v,ha=>by
  simp only[uj] at h;split at h
  .simp only[ae,T.beq_true] at h;cases ha with
   |p q r=>exact .p (by rw[<- h.1];exact q) (PN hz h0 h.2 r)
  .cases h
 |.sl U o n c,b,h,v,ha=>by
  simp only[uj] at h;split at h
  .simp only[ae,T.beq_true] at h;cases ha with
   |sl q r s t=>exact .sl (by rw[<- h.1.1.1];exact q) (PN hz h0 h.1.1.2 r) (fc hz h0 h.1.2 s) (Sz hz h0 h.2 t)
  .simp only[ae,T.beq_true] at h;cases KZ hz h0 h.1.2 ha with
   |su q r s a b c=>exact .su (by rw[<- h.1.1];exact q) r (fc hz h0 h.2 s) a b c
   |su0 s=>exact .su0 (fc hz h0 h.2 s)
  .cases h
 |.su U w N n,b,h,v,ha=>by
  simp only[uj] at h;split at h
  .simp only[ae,T.beq_true] at h;cases ha with
   |su q r s a b c=>rw[<- h.1.1.2];exact .su (by rw[<- h.1.1.1];exact q) (fc hz h0 h.1.2 r) (fc hz h0 h.2 s) a b c
   |su0 s=>exact .su0 (fc hz h0 h.2 s)
  .cases h
 |.sn U x n c,b,h,v,ha=>by
  simp only[uj] at h;split at h
  .simp only[ae] at h;cases ha with
   |sn q r s=>exact .sn (fc hz h0 h.1.1 q) (fc hz h0 h.1.2 r) (fc hz h0 h.2 s)
   |sn0 r s=>exact .sn0 (fc hz h0 h.1.2 r) (fc hz h0 h.2 s)
  .cases h
 |.m U,b,h,v,ha=>by
  simp only[uj] at h;split at h;·rw[T.beq_true] at h;rw[<- h];exact ha
  .cases h
 |.fn f a c,b,h,v,ha=>by
  simp only[uj] at h;split at h
  .simp only[ae,T.beq_true] at h;cases ha with
   |fn q r=>rw[h.1.1];exact .fn (sM hz h0 h.1.2 q) (sM hz h0 h.2 r)
  .cases h
 |.yd U,b,h,v,ha=>by
  simp only[uj] at h;split at h;·rw[T.beq_true] at h;rw[<- h];exact ha
  .cases h
 |.ifc t a,b,h,v,ha=>by
  simp only[uj] at h;split at h
  .simp only[ae,T.beq_true] at h;cases ha with
   |ifc q=>rw[h.1];exact .ifc (yw hz h0 h.2 q)
  .cases h
 |.tp l,b,h,v,ha=>by
  simp only[uj] at h;split at h
  .cases ha with
   |tp q=>exact .tp (sM hz h0 h q)
  .cases h
 |.ag l,b,h,v,ha=>by
  simp only[uj] at h;split at h
  .cases ha with
   |ag q t r=>exact .ag ((yx hz h0 h).1 q) t fun i c x=>(yx hz h0 h).2 (r i c x)
  .cases h
 |.rw _ _ _,b,h,v,ha=>by simp only[uj] at h;cases h
theorem sM (hz:ZR Z z)(h0:Z.ints[0]?=some 0):∀ {a b:List A},wA z a b=true->∀ {v:List V},AVs Z a v->AVs Z b v
 |[],b,h,v,ha=>by
  cases b with
  |nil=>exact ha
  |cons=>simp only[wA] at h;cases h
 |a :: l,b,h,v,ha=>by
  cases b with
  |nil=>simp only[wA] at h;cases h
  |cons b r=>
   simp only[wA,ae] at h;cases ha with
   |cons x y=>exact .cons (yw hz h0 h.1 x) (sM hz h0 h.2 y)
theorem yx (hz:ZR Z z)(h0:Z.ints[0]?=some 0):∀ {a b:List A},KY z a b=true->(∀ {n:Nat},gp Z a n->gp Z b n)/\∀ {i:Nat} {c:V},CA Z a i c->CA Z b i c
 |[],b,h=>by
  cases b with
  |nil=>exact⟨id,id⟩
  |cons=>simp only[KY] at h;cases h
 |a :: l,b,h=>by
  cases b with
  |nil=>simp only[KY] at h;cases h
  |cons b r=>
   simp only[KY] at h;split at h
   .rename_i g;simp only[ae] at g h;have ih:=yx hz h0 h.2;refine⟨fun hl=>?_,fun hc=>?_⟩
    .cases hl with
     |cons x y=>have:=x.fn (eZ g.1);subst this;exact .cons (eZ g.2) (ih.1 y)
    .cases hc with
     |here p q=>exact .here g.2 (yw hz h0 h.1 q)
     |skip q k=>have:=q.fn (eZ g.1);subst this;exact .skip (eZ g.2) (ih.2 k)
     |row=>simp only[plain] at g;cases g.1
     |foc=>simp only[plain] at g;cases g.1
   .split at h
    .simp only[ae] at h;have ih:=yx hz h0 h.2;obtain⟨k1,k2⟩:=sk hz h0 h.1.1;have hw:∀ {ks:List EK} {n:LE} {w:Nat},WV Z (.rw ks n none) w->∀ {ks':List EK} {n':LE},ks'.length=ks.length->eqQ z n n'=true->WV Z (.rw ks' n' none) w:=fun {ks n w} hw {ks' n'} e1 e2=>by
      cases hw with
      |one q=>exact absurd rfl (q _ _ _)
      |rw hn _=>rw[<- e1];exact .rw (fc hz h0 e2 hn) fun _ _ e=>nomatch e
     refine⟨fun hl=>?_,fun hc=>?_⟩
     .cases hl with
      |cons x y=>exact .cons (hw x k1 h.1.2) (ih.1 y)
     .cases hc with
      |here p q=>cases p
      |skip q k=>exact .skip (hw q k1 h.1.2) (ih.2 k)
      |row a b d e f=>obtain⟨k',x,y⟩:=k2 _ _ e;exact .row (fc hz h0 h.1.2 a) (by rw[k1];exact b) (fun _ _ e=>nomatch e) (k:=k') (by rw[k1];exact x) (y _ f)
    .cases h
end
theorem Nd (hz:ZR Z z)(h0:Z.ints[0]?=some 0){l p:List A}{n:Nat}{pat:List V}{tr:T V}(cr:CR Z l n pat tr):CR Z (Jz z l p) n pat tr:=by
 unfold Jz;split
 .split;·have hn:=cr.len.fn gp.nil;subst hn;exact tS.cr (cnt:=0) ⟨rfl,fun i hi=>by omega⟩ (eO h0 0)
  .exact cr
  .split;·rename_i r hr;obtain⟨_,cnt,hN,rv⟩:=iD hz h0 (ks:=r.1) (N:=r.2) hr cr;exact rv.cr hN
   .exact cr
 .exact cr
theorem yz {a b:Option TypeId}(h:M9 a b=true):a=b:=by
 unfold M9 at h;split at h;·rfl
 .rw[T.beq_true] at h;rw[h]
 .cases h
theorem K5 (hz:ZR Z z)(h0:Z.ints[0]?=some 0):∀ {a b:List LE},Q1 z a b=true->∀ {zs:List Int},rO Z a zs->rO Z b zs
 |[],b,h,zs,hn=>by
  cases b with
  |nil=>exact hn
  |cons=>cases h
 |x :: a,b,h,zs,hn=>by
  cases b with
  |nil=>cases h
  |cons y b=>
   simp only[Q1,ae] at h;cases hn with
   |cons p q=>exact .cons (fc hz h0 h.1 p) (K5 hz h0 h.2 q)
theorem PR (hz:ZR Z z)(h0:Z.ints[0]?=some 0){ag:Bool}{l r:List EK}(h:wz z l r=true){v:V}(hv:KsV Z ag l v):KsV Z ag r v:=by
 obtain⟨k1,k2⟩:=sk hz h0 h;cases ag with
 |false=>
  obtain⟨k,rfl,hk⟩:=hv;cases r with
  |nil=>cases k1
  |cons k' r=>
   cases r with
   |cons=>simp at k1
   |nil=>obtain⟨k'',a,b⟩:=k2 0 k rfl;cases a;exact⟨k',rfl,b v hk⟩
 |true=>obtain⟨n,pat,tr,rfl,hn,hc⟩:=hv;refine⟨n,pat,tr,rfl,by rw[k1];exact hn,fun i hi=>?_⟩;obtain⟨c,k,a,b,d⟩:=hc i hi;obtain⟨k',x,y⟩:=k2 i k b;exact⟨c,k',a,x,y c d⟩
theorem gL {α:Type}{f:α->Bool}:∀ {l:List α},fm f l=true->∀ x,x∈l->f x=true
 |[],_,x,h=>by simp at h
 |y :: l,h,x,hx=>by
  simp only[fm] at h;split at h
  .rename_i q;rcases aq.1 hx with rfl|hx
   .exact q
   .exact gL h x hx
  .cases h
theorem Nf (hz:ZR Z z)(h0:Z.ints[0]?=some 0){a b:Option LE}(h:DU z a b=true){x:Int}(hx:Low Z a x):Low Z b x:=fun e he=>by
 subst he;unfold DU at h;simp only at h;split at h;·obtain⟨y,y1,y2⟩:=hx _ rfl;obtain⟨w,w1,w2⟩:=yp hz h0 h y1;exact⟨w,w1,by omega⟩
 .cases h
theorem Ng (hz:ZR Z z)(h0:Z.ints[0]?=some 0){a b:Option LE}(h:DV z a b=true){x:Int}(hx:ug Z a x):ug Z b x:=fun e he=>by
 subst he;unfold DV at h;simp only at h;split at h;·obtain⟨y,y1,y2⟩:=hx _ rfl;obtain⟨w,w1,w2⟩:=mU hz h0 h y1;exact⟨w,w1,by omega⟩
 .cases h
theorem SoR.imp (hz:ZR Z z)(h0:Z.ints[0]?=some 0){n n' k k':LE}{lo lo' hi hi':Option LE}{els els':List (LE×LE)}{cnt:Nat}{f:Nat->Int}(h:SoR Z n k lo hi els cnt f)(e1:Num Z n' (cnt:Int))(e2:leQ z k k'=true)(e3:DU z lo lo'=true)(e4:DV z hi hi'=true)(e5:fm (fun p=>match atE z p.1 els with
  |some v=>eqQ z v p.2
  |none=>false) els'=true):SoR Z n' k' lo' hi' els' cnt f:=by
 obtain⟨kk,k1,k2,k3⟩:=h.srt;obtain⟨kk',q1,q2⟩:=mU hz h0 e2 k1;refine⟨e1,h.all,⟨kk',q1,fun i j a b c=>k2 i j (by omega) b c,fun i a b=>?_⟩,fun p hp=>?_⟩;·obtain⟨u,v⟩:=k3 i (by omega) b;exact⟨Nf hz h0 e3 u,Ng hz h0 e4 v⟩
 .have:=gL e5 p hp;split at this;·rename_i v hv;obtain⟨r,r1,r2,rfl⟩:=Am hz h0 hv;obtain⟨i,i1,i2,i3⟩:=h.els r r1;exact⟨i,fc hz h0 r2 i1,i2,fc hz h0 this i3⟩
  .cases this
theorem G5 (hz:ZR Z z)(h0:Z.ints[0]?=some 0):∀ {es es':List (Int×A)},JA es es'=true->es.map (fun e=>V.int .i64 e.1)=es'.map fun e=>V.int .i64 e.1
 |[],[],_=>rfl
 |e :: l,f :: r,h=>by simp only[JA,ae,iT] at h;simp only[aS,h.1,G5 hz h0 h.2]
 |[],_ :: _,h=>by cases h
 |_ :: _,[],h=>by cases h
theorem PS (hz:ZR Z z)(h0:Z.ints[0]?=some 0){M:TH}{a b:AO}(h:Sa z a b=true){c:Nat}{hp:List (Nat×O)}(ha:AOR M Z a c hp):AOR M Z b c hp:=by
 unfold Sa at h;split at h
 .rename_i r t l r' t' l';simp only[ae] at h;have e1:=eq_of_beq h.1.1;have e2:=yz h.1.2;subst e1;subst e2;have key:∀ {n pat tr},CR Z l n pat tr->CR Z l' n pat tr:=fun {n pat tr} cr=>by
   have c1:=Nd hz h0 (p:=l') (CR.nY hz h0 l [] cr);have c2:=yx hz h0 h.2;exact⟨c2.1 c1.len,c1.all,fun i c q=>c2.2 (c1.at' i c q)⟩
  cases ha with
  |cl cr=>exact .cl (key cr)
  |ro cr=>exact .ro (key cr)
 .simp only[ae] at h;have e1:=eq_of_beq h.1.1.1;have e2:=eq_of_beq h.1.1.2;subst e1;subst e2;cases ha with
  |mp q=>exact .mp fun e he=>let ⟨x,y,w⟩:=q e he;⟨PR hz h0 h.1.2 x,PR hz h0 h.2 y,w⟩
 .exact ha
 .simp only[ae,T.beq_true] at h;cases ha with
  |ob q r s t=>rw[<- h.1];exact .ob (K5 hz h0 h.2 q) r s t
 .simp only[ae] at h;cases ha with
  |it q r=>exact .it (yw hz h0 h.1 q) (fc hz h0 h.2 r)
 .simp only[ae] at h;cases ha with
  |mx hk hv hs=>exact .mx (hk.trans (G5 hz h0 h.1)) (sM hz h0 h.2 hv) hs
 .rename_i t te ks B m n t' te' ks' B' m' n';simp only[ae,T.beq_true] at h;obtain⟨⟨⟨⟨⟨h1,h2⟩,h3⟩,h4⟩,h5⟩,h6⟩:=h;subst h1 h2;obtain⟨k1,k2⟩:=sk hz h0 h4;cases ha with
  |rr z a b rv d=>exact .rr (fc hz h0 h3 z) (fc hz h0 h5 a) (fc hz h0 h6 b) ⟨rv.le,rv.all,rv.len,rv.hf,fun i c hp x y z=>(rv.own i c hp x y z).map k1 k2,rv.at'⟩ d
 .rename_i t N t' te' ks' B' m n;simp only[ae,T.beq_true] at h;obtain⟨⟨⟨h1,hB0⟩,h2⟩,h3⟩:=h;subst h1;obtain⟨bB,hB0⟩:=bu.1 hB0;have hB:Num Z B' (bB:Int):=by
   unfold T5 at hB0;split at hB0;·rename_i n q1 q2;cases hB0;rw[T.beq_true] at q1;have:=eO h0 (Int.ofNat bB);rw[show((0:Nat),Int.ofNat bB)=B' from bQ q1.symm q2.symm] at this;exact this
   .cases hB0
  cases ha with
  |cl cr=>
   rename_i nn pat tr;obtain⟨cnt,hN,rv⟩:=cr.LX;have hnn:nn=cnt:=by have:=rv.len;simpa using this
   subst hnn;have hc:∀ i,i<nn->cell nn pat tr i=some .nils:=fun i hi=>by obtain⟨c,k,a1,a2,a3⟩:=rv.at' i hi;simp only[aU,cO,aI,dB] at a2;cases a2;cases a3;exact a1
   have hfl:(List.replicate nn ([]:List (Nat×O))).flatten=[]:=by simp
   have:=AOR.rr (M:=M) (t:=t) (te:=te') (ks:=ks') (B:=B') (foc:=none) (b:=c) (L:=List.replicate nn []) (g:=none) hB (fc hz h0 h2 hN) (fc hz h0 h3 hN) ⟨aF _,fun i hi=>⟨_,hc i hi⟩,by simp,trivial,(fun i v hp x y _=>by have hi:=eT y;rw[hc i hi] at y;cases y;exact .inl ⟨rfl,List.eq_of_mem_replicate (aC x)⟩),fun i v hp e a _ _ w=>nomatch w⟩ (by rw[hfl];simp);rw[hfl] at this;exact this
 .rename_i t k N t' te' ks' B' m n _;simp only[ae,T.beq_true,isZ,iT] at h;obtain⟨⟨⟨h1,hB0⟩,h2⟩,h3⟩:=h;subst h1;obtain⟨b0,b1,b2⟩:=mU hz h0 hB0 (eO h0 0);obtain⟨bB,rfl⟩:=cj b2;have hm:Num Z m ((0:Nat):Int):=by
   have:=eO h0 0;rw[show((0:Nat),(0:Int))=m from bQ h2.1.symm h2.2.symm] at this;exact this
  cases ha with
  |cl cr=>
   rename_i nn pat tr;obtain⟨cnt,hN,rv⟩:=cr.LX;have hnn:nn=cnt:=by have:=rv.len;simpa using this
   subst hnn;exact .rr (L:=[]) (mm:=0) (g:=none) b1 hm (fc hz h0 h3 hN) ⟨cW _,fun i hi=>by obtain⟨c,_,c1,_⟩:=rv.at' i hi;exact⟨c,c1⟩,rfl,trivial,(fun i v hp x y _=>by simp at x),fun i v hp e a x _ _=>by simp at x⟩ (by simp)
 .simp only[ae,T.beq_true] at h;obtain⟨⟨⟨⟨⟨⟨⟨h1,h2⟩,h3⟩,h4⟩,h5⟩,h6⟩,h7⟩,h8⟩:=h;have h2:=eq_of_beq h2;have h3:=yz h3;have h4:=yz h4;have h5:=(iT).1 h5;subst h1 h2 h3 h4 h5;cases ha with
  |sp a1 a2 a3 a4 a5 a6 a7 a8=>exact .sp a1 (fc hz h0 h6 a2) (a3.imp hz h0 (by exact_mod_cast (fc hz h0 h6 a2).plus 1) h7 rfl rfl h8) a4 a5 a6 a7 a8
 .simp only[ae,decide_eq_true_eq] at h;obtain⟨⟨⟨h1,h2⟩,h3⟩,h4⟩:=h;have h1:=eq_of_beq h1;have h2:=yz h2;subst h1 h2 h3;cases ha with
  |@so rr _ _ _ _ _ _ _ cnt pat tr f _ a1 a2 a3=>
   subst a3;have cr:CR Z [.rw [.int .i64 none none] _ none] cnt pat tr:=tS.cr (cnt:=cnt) ⟨by simp,fun i hi=>⟨_,.int .i64 none none,a2 i hi,by simp[dB],.int (a1.all i hi) (fun _ e=>nomatch e) (fun _ e=>nomatch e)⟩⟩ (fc hz h0 h4 a1.hn);unfold roO;split;·exact .ro cr
   .exact .cl cr
 .simp only[ae] at h;obtain⟨⟨⟨⟨⟨⟨h1,h2⟩,h3⟩,h4⟩,h5⟩,h6⟩,h7⟩:=h;have h1:=eq_of_beq h1;have h2:=yz h2;subst h1 h2;cases ha with
  |so a1 a2 a3=>exact .so (a1.imp hz h0 (fc hz h0 h3 a1.hn) h4 h5 h6 h7) a2 a3
 .simp only[ae,T.beq_true] at h;obtain⟨⟨⟨⟨h1,h2⟩,h3⟩,h4⟩,h5⟩:=h;subst h1 h2 h3;cases ha with
  |bc a b c d e=>exact .bc (fc hz h0 h4 a) b (fc hz h0 h5 c) d (fun _ _ e=>nomatch e)
 .cases h
end
variable {Z Z':NV}
theorem G6 {n:Nat}:∀ {l:List Nat},Ey n l=false->n∉l
 |[],_,h=>by simp at h
 |m :: l,h,hx=>by
  simp only[Ey] at h;split at h;·cases h
  .rename_i q;rcases aq.1 hx with rfl|hx
   .rw[(T.beq_true).2 rfl] at q;cases q
   .exact G6 h hx
theorem wF:∀ {l:List Nat},apart l=true->l.Nodup
 |[],_=>.nil
 |n :: l,h=>by
  simp only[apart] at h;split at h;·cases h
  .rename_i q;exact bC.2 ⟨G6 q,wF h⟩
theorem kp {α U:Type}{R:α->U->Prop}:∀ {l:List α},(∀ x,x∈l->∃ y,R x y)->∃ r:List U,r.length=l.length/\∀ (i:Nat) (x:α),l[i]?=some x->∃ y,r[i]?=some y/\R x y
 |[],_=>⟨[],rfl,fun i x h=>by simp at h⟩
 |x :: l,h=>by
  obtain⟨y,hy⟩:=h x (by simp);obtain⟨r,r1,r2⟩:=kp fun z hz=>h z (aB _ hz);refine⟨y :: r,by simp[r1],fun i z hz=>?_⟩;cases i with
  |zero=>simp at hz;subst hz;exact⟨y,rfl,hy⟩
  |succ i=>obtain⟨w,a,b⟩:=r2 i z (by simpa using hz);exact⟨w,by simpa using a,b⟩
theorem K6 {Z:NV}{n:Nat}(hn:Z.ints.length=n):∀ {e:BE},Pz n e=true->∃ b,BV Z e b
 |.lit b,_=>⟨b,.lit b⟩
 |.lt x y,h=>by simp only[Pz,ae] at h;have h1:x.1<n:=az h.1;have h2:y.1<n:=az h.2;exact⟨_,.lt ⟨_,ah (by omega),rfl⟩ ⟨_,ah (by omega),rfl⟩⟩
 |.eq x y,h=>by simp only[Pz,ae] at h;have h1:x.1<n:=az h.1;have h2:y.1<n:=az h.2;exact⟨_,.eq ⟨_,ah (by omega),rfl⟩ ⟨_,ah (by omega),rfl⟩⟩
 |.not e,h=>by obtain⟨b,hb⟩:=K6 hn (e:=e) h;exact⟨_,.not hb⟩
theorem rO.tr {X:TA}{Z Z':NV}(h:TR X Z Z'):∀ {l l':List LE},eX X.le l=some l'->∀ zs,rO Z l zs↔rO Z' l' zs
 |[],l',q,zs=>by cases q;exact⟨fun k=>by cases k;exact .nil,fun k=>by cases k;exact .nil⟩
 |e :: l,l',q,zs=>by
  simp only[eX] at q;split at q
  .rename_i e' he;split at q
   .rename_i r hr;cases q;exact⟨fun k=>by cases k with
     |cons a b=>exact .cons ((h.le he _).1 a) ((rO.tr h hr _).1 b),fun k=>by cases k with
     |cons a b=>exact .cons ((h.le he _).2 a) ((rO.tr h hr _).2 b)⟩
   .cases q
  .cases q
theorem JG {ag:Bool}{l r:List EK}(h:SKs Z Z' l r){v:V}(hv:KsV Z ag l v):KsV Z' ag r v:=by
 obtain⟨k1,k2⟩:=h.at;cases ag with
 |false=>
  obtain⟨k,rfl,hk⟩:=hv;cases h with
  |cons a b=>cases b;exact⟨_,rfl,(a v).1 hk⟩
 |true=>obtain⟨n,pat,tr,rfl,hn,hc⟩:=hv;refine⟨n,pat,tr,rfl,by rw[k1];exact hn,fun i hi=>?_⟩;obtain⟨c,k,a,b,d⟩:=hc i hi;obtain⟨k',x,y⟩:=k2 i k b;exact⟨c,k',a,x,(y c).1 d⟩
theorem SAs.cr {l l':List A}(h:SAs Z Z' l l'){n:Nat}{pat:List V}{tr:T V}(c:CR Z l n pat tr):CR Z' l' n pat tr:=⟨h.len c.len,c.all,fun i x q=>h.ca (c.at' i x q)⟩
theorem RRV.sks {te:TypeId}{ks ks':List EK}{B:Nat}{cnt mm:Nat}{pat:List V}{tr:T V}{L:List (List (Nat×O))}{g:Option Nat}(s:SKs Z Z' ks ks')(q:RRV Z te ks B none cnt mm pat tr L g):RRV Z' te ks' B none cnt mm pat tr L g:=by
 obtain⟨k1,k2⟩:=s.at;refine⟨q.le,q.all,q.len,?_,fun i c hp x y z=>(q.own i c hp x y z).map k1 fun i k hk=>let ⟨k',a,b⟩:=k2 i k hk;⟨k',a,fun v=>(b v).1⟩,fun i c hp e a _ _ _ w=>nomatch w⟩;have:=q.hf;cases g with
 |none=>trivial
 |some _=>exact this.elim
theorem SoR.tr {n n' k k':LE}{lo lo' hi hi':Option LE}{els els':List (LE×LE)}{cnt:Nat}{f:Nat->Int}(h:SoR Z n k lo hi els cnt f)(e1:∀ z,Num Z n z->Num Z' n' z)(e2:∀ z,Num Z k z->Num Z' k' z)(e3:∀ z,Low Z lo z->Low Z' lo' z)(e4:∀ z,ug Z hi z->ug Z' hi' z)(e5:∀ p',p'∈els'->∃ p,p∈els/\(∀ z,Num Z p.1 z->Num Z' p'.1 z)/\∀ z,Num Z p.2 z->Num Z' p'.2 z):SoR Z' n' k' lo' hi' els' cnt f:=by obtain⟨kk,k1,k2,k3⟩:=h.srt;refine⟨e1 _ h.hn,h.all,⟨kk,e2 _ k1,k2,fun i a b=>let ⟨u,v⟩:=k3 i a b;⟨e3 _ u,e4 _ v⟩⟩,fun p' hp=>?_⟩;obtain⟨p,p1,p2,p3⟩:=e5 p' hp;obtain⟨i,i1,i2,i3⟩:=h.els p p1;exact⟨i,p2 _ i1,i2,p3 _ i3⟩
theorem UQ {e e':LE}(h:SE Z Z' e e')(c:Int):SE Z Z' (plus e c) (plus e' c):=fun z=>by
 have go:∀ {Z Z':NV} {e e':LE},(∀ z,Num Z e z->Num Z' e' z)->Num Z (plus e c) z->Num Z' (plus e' c) z:=fun {Z Z' e e'} g ⟨y,a,b⟩=>by obtain⟨y',a',b'⟩:=g (y+e.2) ⟨y,a,rfl⟩;have b:z=y+(e.2+c):=b;exact⟨y',a',by show z=y'+(e'.2+c);omega⟩
 exact⟨go fun z=>(h z).1,go fun z=>(h z).2⟩
theorem TR.PU {X:TA}{Z Z':NV}(h:TR X Z Z'):∀ {l l':List (LE×LE)},eX X.lel l=some l'->(∀ p',p'∈l'->∃ p,p∈l/\(∀ z,Num Z p.1 z->Num Z' p'.1 z)/\∀ z,Num Z p.2 z->Num Z' p'.2 z)/\(∀ p,p∈l->∃ p',p'∈l'/\(∀ z,Num Z' p'.1 z->Num Z p.1 z)/\∀ z,Num Z' p'.2 z->Num Z p.2 z)
 |[],l',q=>by cases q;exact⟨fun p h=>(nomatch h),fun p h=>nomatch h⟩
 |x :: l,l',q=>by
  simp only[eX] at q;split at q
  .rename_i x' hx;split at q
   .rename_i r hr;cases q;obtain⟨a,b⟩:=TR.PU h hr;unfold TA.lel at hx;split at hx
    .rename_i u v hu hv;cases hx;refine⟨fun p' hp=>?_,fun p hp=>?_⟩
     .rcases aq.1 hp with rfl|hp;·exact⟨x,by simp,fun z=>(h.le hu z).1,fun z=>(h.le hv z).1⟩
      .obtain⟨p,p1,p2⟩:=a p' hp;exact⟨p,aB _ p1,p2⟩
     .rcases aq.1 hp with rfl|hp;·exact⟨(u,v),by simp,fun z=>(h.le hu z).2,fun z=>(h.le hv z).2⟩
      .obtain⟨p',p1,p2⟩:=b p hp;exact⟨p',aB _ p1,p2⟩
    .cases hx
   .cases q
  .cases q
theorem SAs.num {Z Z':NV}:∀ {l l':List A},SAs Z Z' l l'->l'.length=l.length
 |_,_,.nil=>rfl
 |_,_,.cons _ r=>by simp only[aU,r.num]
theorem G7:∀ {es:List (Int×A)} {l:List A},l.length=es.length->(Oo es l).map (fun e=>V.int .i64 e.1)=es.map (fun e=>V.int .i64 e.1)/\(Oo es l).map Prod.snd=l
 |[],[],_=>⟨rfl,rfl⟩
 |e :: es,a :: l,h=>by obtain⟨x,y⟩:=G7 (es:=es) (l:=l) (by simpa using h);exact⟨by simp only[Oo,aS,x],by simp only[Oo,aS,y]⟩
 |[],_ :: _,h=>by simp at h
 |_ :: _,[],h=>by simp at h
theorem TR.ao {M:TH}{X:TA}{Z Z':NV}(h:TR X Z Z'){a a':AO}(q:X.ao a=some a'){b:Nat}{hp:List (Nat×O)}:AOR M Z a b hp↔AOR M Z' a' b hp:=by
 unfold TA.ao at q;split at q
 .split at q
  .rename_i h1;cases q;have s:=h.as h1;exact⟨fun k=>by cases k with
    |cl c=>exact .cl (s.cr c)
    |ro c=>exact .ro (s.cr c),fun k=>by cases k with
    |cl c=>exact .cl (s.symm.cr c)
    |ro c=>exact .ro (s.symm.cr c)⟩
  .cases q
 .split at q
  .rename_i h1 h2;cases q;have s1:=h.eks h1;have s2:=h.eks h2;exact⟨fun k=>by cases k with
    |mp c=>exact .mp fun e he=>let ⟨x,y,w⟩:=c e he;⟨JG s1 x,JG s2 y,w⟩,fun k=>by cases k with
    |mp c=>exact .mp fun e he=>let ⟨x,y,w⟩:=c e he;⟨JG s1.symm x,JG s2.symm y,w⟩⟩
  .cases q
 .cases q;exact⟨fun k=>by cases k;exact .df,fun k=>by cases k;exact .df⟩
 .split at q
  .rename_i h1;cases q;exact⟨fun k=>by cases k with
    |ob a b c d=>exact .ob ((rO.tr h h1 _).1 a) b c d,fun k=>by cases k with
    |ob a b c d=>exact .ob ((rO.tr h h1 _).2 a) b c d⟩
  .cases q
 .cases q
 .split at q
  .rename_i ks' B' m' n' h1 h0 h2 h3;cases q;have s1:=h.eks h1;have s0:=h.le h0;have s2:=h.le h2;have s3:=h.le h3;exact⟨fun k=>by cases k with
    |rr z a b rv d=>exact .rr ((s0 _).1 z) ((s2 _).1 a) ((s3 _).1 b) (RRV.sks s1 rv) d,fun k=>by cases k with
    |rr z a b rv d=>exact .rr ((s0 _).2 z) ((s2 _).2 a) ((s3 _).2 b) (RRV.sks s1.symm rv) d⟩
  .cases q
 .cases q
 .split at q
  .rename_i es _ l h1;cases q;have s:=h.as h1;have zl:=s.num;rw[cM] at zl;obtain⟨z1,z2⟩:=G7 zl;exact⟨fun k=>by cases k with
    |mx hk hv hs=>exact .mx (by rw[z1];exact hk) (by rw[z2];exact s.av hv) hs,fun k=>by cases k with
    |mx hk hv hs=>exact .mx (by rw[z1] at hk;exact hk) (by rw[z2] at hv;exact s.symm.av hv) hs⟩
  .cases q
 .split at q
  .rename_i h1 h2;cases q;have s1:=h.le h1;have s2:=h.le h2;exact⟨fun k=>by cases k with
    |bc a b c d e=>exact .bc ((s1 _).1 a) b ((s2 _).1 c) d (fun _ _ e=>nomatch e),fun k=>by cases k with
    |bc a b c d e=>exact .bc ((s1 _).2 a) b ((s2 _).2 c) d (fun _ _ e=>nomatch e)⟩
  .cases q
 .cases q
 .split at q
  .rename_i h1 h2 h3 h4 h5;cases q;exact⟨fun k=>by cases k with
    |so a b c=>exact .so (a.tr (fun z=>(h.le h1 z).1) (fun z=>(h.le h2 z).1) (fun z=>((h.ole h3).1 z).1) (fun z=>((h.ole h4).2 z).1) (h.PU h5).1) b c,fun k=>by cases k with
    |so a b c=>exact .so (a.tr (fun z=>(h.le h1 z).2) (fun z=>(h.le h2 z).2) (fun z=>((h.ole h3).1 z).2) (fun z=>((h.ole h4).2 z).2) (h.PU h5).2) b c⟩
  .cases q
 .cases q
 .cases q
 .cases q
 .split at q
  .rename_i h1 h2 h3 h4;cases q;have hb:=h.blk h1;have p1:∀ z,Num _ (plus _ 1) z↔Num _ (plus _ 1) z:=fun z=>UQ (h.le h2) 1 z;exact⟨fun k=>by cases k with
    |sp a b c d e f g i=>exact .sp (by rw[<- hb];exact a) ((h.le h2 _).1 b) (c.tr (fun z=>(p1 z).1) (fun z=>(h.le h3 z).1) (fun _ _ _ e=>nomatch e) (fun _ _ _ e=>nomatch e) (h.PU h4).1) d e f g i,fun k=>by cases k with
    |sp a b c d e f g i=>exact .sp (by rw[hb];exact a) ((h.le h2 _).2 b) (c.tr (fun z=>(p1 z).2) (fun z=>(h.le h3 z).2) (fun _ _ _ e=>nomatch e) (fun _ _ _ e=>nomatch e) (h.PU h4).2) d e f g i⟩
  .cases q
 .split at q
  .rename_i h1 h2;cases q;have s1:=h.a h1;have s2:=h.le h2;exact⟨fun k=>by cases k with
    |it a b=>exact .it (s1.av a) ((s2 _).1 b),fun k=>by cases k with
    |it a b=>exact .it (s1.symm.av a) ((s2 _).2 b)⟩
  .cases q
structure Met (M:TH)(X:TA)(p:PT)(J:AS)(st:St)(Z0 Z' Zh:NV)(hps:List (List (Nat×O))):Prop where
 le:Z0.le Zh
 tr:TR X Zh Z'
 li:Zh.ints.length=X.nx+p.ni
 ls:Zh.strs.length=X.ns+p.ns
 lb:Zh.blks.length=X.nb+p.nb
 lo:Zh.objs=Z0.objs++hps
 lh:hps.length=p.mem.length
 tm:∀ q,q∈p.tm->∃ v,st.env.tr.get q.1=some v/\AV Zh q.2 v
 mem:∀ (i U:Nat) (ao:AO),p.mem[i]?=some (U,ao)->∃ U' s act b hp,X.blk U=some U'/\(ko X p)[i]?=some U'/\J.mem.get U'=some (s,act)/\Zh.blks[U]?=some b/\Z'.objs[s]?=some hp/\hps[i]?=some hp/\AOR M Zh ao b hp
 fs:∀ f,f∈p.fs->Holds Zh f
 nd:(ko X p).Nodup
theorem G8 {M:TH}{fr:FR}{X:TA}{p:PT}{J:AS}{st:St}{Z0:NV}(h:met X p J=true)(hM:Mem M fr Z' J st)(hle:Z0.le Z')(h0:Z0.ints[0]?=some 0)(li:Z0.ints.length=X.nx)(ls:Z0.strs.length=X.ns)(lb:Z0.blks.length=X.nb):∃ Zh hps,Met M X p J st Z0 Z' Zh hps:=by
 simp only[met,ae,T.beq_true] at h;obtain⟨⟨⟨⟨⟨⟨⟨⟨⟨e1,e2⟩,e3⟩,q1⟩,q2⟩,q3⟩,q4⟩,q5⟩,q6⟩,q7⟩:=h;have q1:=gL q1;have q2:=gL q2;have q3:=gL q3;have q4:=gL q4;have q5:=gL q5;have q6:=gL q6;obtain⟨iv,iv1,iv2⟩:=kp (R:=fun(r:RV) (y:Int)=>match r with
  |.e p=>Num Z' p y
  |.b e=>∃ b:Bool,y=(if b then 1 else 0)/\BV Z' e b) (l:=X.i) fun r hr=>by
  have:=q1 r hr;cases r with
  |e p=>have hlt:p.1<J.nx:=az this;exact⟨_,_,ah (by rw[hM.vr.ni];exact hlt),rfl⟩
  |b e=>obtain⟨b,hb⟩:=K6 hM.vr.ni this;exact⟨_,b,rfl,hb⟩
 obtain⟨sv,sv1,sv2⟩:=kp (R:=fun(a:A) (s:List UInt8)=>Sc J a=true/\match a with
  |.s j _=>Z'.strs[j]?=some s
  |.k v=>v=.str s
  |_=>False) (l:=X.s) fun a ha=>by
  have:=q2 a ha;unfold Sc at this;split at this;·rename_i j x;have hlt:j<J.ns:=az this;exact⟨_,q2 _ ha,ah (by rw[hM.vr.ns];exact hlt)⟩
  .exact⟨_,q2 _ ha,rfl⟩
  .cases this
 obtain⟨bv,bv1,bv2⟩:=kp (R:=fun(U:Nat) (b:Nat)=>Z'.blks[U]?=some b) (l:=X.b) fun U hU=>by have hlt:U<J.nb:=az (q3 U hU);exact⟨_,ah (by rw[hM.vr.nb];exact hlt)⟩
 obtain⟨hv,hv1,hv2⟩:=kp (R:=fun(q:Nat×AO) (hp:List (Nat×O))=>∃ U' s act,X.blk q.1=some U'/\J.mem.get U'=some (s,act)/\Z'.objs[s]?=some hp) (l:=p.mem) fun q hq=>by
  have:=q5 q hq;unfold Sd at this;split at this;case h_2=>cases this
  rename_i U hU;split at this;case h_2=>cases this
  rename_i s a b hb _;obtain⟨_,hp,_,x2,_⟩:=hM.hr.at' _ _ _ hb;exact⟨hp,U,s,a,hU,hb,x2⟩
 let Zh:NV:=⟨Z0.ints++iv,Z0.strs++sv,Z0.blks++bv,Z0.objs++hv⟩;have hl0:Z0.le Zh:=⟨fun h=>by rw[aG,if_pos (ai.1 h).1];exact h,fun h=>by rw[aG,if_pos (ai.1 h).1];exact h,fun h=>by rw[aG,if_pos (ai.1 h).1];exact h,fun h=>by rw[aG,if_pos (ai.1 h).1];exact h⟩;have app:∀ {α:Type} (a b:List α) (n j:Nat),a.length=n->(a++b)[n+j]?=b[j]?:=fun a b n j e=>by rw[aG,if_neg (by omega)];congr 1;omega
 have htr:TR X Zh Z':=by
  refine⟨?_,hl0.i h0,hM.vr.z0,fun x hx=>?_,fun j r hr=>?_,fun x hx=>?_,fun j a ha=>?_,fun x hx=>?_,fun j U hU=>?_⟩;·rw[<- li];exact(ai.1 h0).1
  .have:=ah (l:=Z0.ints) (i:=x) (by omega);rw[hl0.i this,hle.i this]
  .obtain⟨y,y1,y2⟩:=iv2 j r hr;have:Zh.ints[X.nx+j]?=some y:=by rw[<- y1];exact app _ _ _ _ li
   cases r with
   |e p=>exact⟨y,this,y2⟩
   |b e=>obtain⟨b,b1,b2⟩:=y2;exact⟨b,by rw[this,b1],b2⟩
  .have:=ah (l:=Z0.strs) (i:=x) (by omega);rw[hl0.s this,hle.s this]
  .obtain⟨s,s1,s2,s3⟩:=sv2 j a ha;exact⟨s,by rw[<- s1];exact app _ _ _ _ ls,s3⟩
  .have:=ah (l:=Z0.blks) (i:=x) (by omega);rw[hl0.b this,hle.b this]
  .obtain⟨b,b1,b2⟩:=bv2 j U hU;exact⟨b,by rw[<- b1];exact app _ _ _ _ lb,b2⟩
 refine⟨Zh,hv,hl0,htr,?_,?_,?_,rfl,hv1,fun q hq=>?_,fun i U ao hi=>?_,fun f hf=>?_,wF q7⟩;·show(Z0.ints++iv).length=_;rw[bt,li,iv1,e1]
 .show(Z0.strs++sv).length=_;rw[bt,ls,sv1,e2]
 .show(Z0.blks++bv).length=_;rw[bt,lb,bv1,e3]
 .have:=q4 q hq;unfold T6 at this;split at this;·rename_i a b h1 h2;obtain⟨v,v1,v2⟩:=hM.er _ _ h1;exact⟨v,v1,(htr.a h2).symm.av (yw hM.vr.zr hM.vr.z0 this v2)⟩
  .cases this
 .obtain⟨hp,p1,U',s,act,p2,p3,p4⟩:=hv2 i _ hi;have:=q5 _ (aC hi);unfold Sd at this;rw[p2] at this;simp only[p3] at this;split at this;case h_2=>cases this
  rename_i s1 a b e4 h4;cases e4;obtain⟨bb,hp',x1,x2,x3,x4⟩:=hM.hr.at' _ _ _ p3;rw[p4] at x2;cases x2;refine⟨U',s,act,bb,hp,p2,?_,p3,?_,p4,p1,(htr.ao h4).2 (PS hM.vr.zr hM.vr.z0 this x3)⟩;·unfold ko;rw[aL,hi];simp only[cA,p2]
  .rw[htr.blk p2];exact x1
 .have:=q6 f hf;unfold T7 at this;split at this;case h_2=>cases this
  rename_i a b h1 h2;have w:∃ x,Num Z' a x:=by
   have:∃ x,Num Zh f.1 x:=by
    unfold TA.le at h1;split at h1;·rename_i g;have g:f.1.1<X.nx:=az g;exact⟨_,_,ah (l:=Zh.ints) (i:=f.1.1) (by show f.1.1<(Z0.ints++iv).length;rw[bt];omega),rfl⟩
    .rename_i g;have g:=GY g;split at h1;·rename_i r hr;rw[nf] at hr;obtain⟨y,y1,_⟩:=htr.i1 _ _ hr;have e1:Nat.sub f.1.1 X.nx=f.1.1 - X.nx:=rfl;rw[show X.nx+Nat.sub f.1.1 X.nx=f.1.1 by omega] at y1;exact⟨_,y,y1,rfl⟩
     .cases h1
   obtain⟨x,hx⟩:=this;exact⟨x,(htr.le h1 _).1 hx⟩
  obtain⟨x,hx⟩:=w;obtain⟨y,y1,y2⟩:=mU hM.vr.zr hM.vr.z0 this hx;exact⟨x,y,(htr.le h1 _).2 hx,(htr.le h2 _).2 y1,y2⟩
end Go.Ae

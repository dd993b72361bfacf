/- The checker is sound: regions, contracts, objects, loops, calls. -/
import Derived.Test.YtboaighhnghpdaaGreatDoorX
set_option linter.unusedVariables false
set_option linter.unusedSimpArgs false
set_option maxHeartbeats 1000000
namespace Go.Ae
open Go.Ev Go.RowKit
variable {v:V}{fr:FR}{Z:NV}{J:AS}{st:St}{o:Oper}{env:Env}{c:Call}
def Run (P:Program)(c:Code)(rd:Option Nat)(st:St)(x:Xx)(st':St):Prop:=
 ∀ Y F a w k Q,Le Y rd F->Sim Y st.h w->iU Y st.env a.tmps->yE Y st.defs a.defers->(∀ Y' a' w',Sim Y' st'.h w'->Ext Y st.h w Y' st'.h w'->iU Y' st'.env a'.tmps->yE Y' st'.defs a'.defers->Q (XE x) a' w')->c.wpIn F k P Q a w
def iW (P:Program)(t:Tgt)(h:H)(v:V)(h':H):Prop:=∀ s Y w,NI Y t s->Sim Y h w->jy P (s.run P w) (Post Y h w v h')
open Classical in
noncomputable def yh (t:Tgt)(h:H)(v:V)(h':H):ic:=fun t1 h1=>if t1=t/\h1=h then some (v,h') else none
theorem F8 {P:Program}{t:Tgt}{h:H}{h':H}(q:iW P t h v h'):pT P (yh t h v h'):=fun t1 s Y h1 w v1 h1' hT hS hc=>by
 unfold yh at hc;split at hc;·rename_i e;obtain⟨rfl,rfl⟩:=e;cases hc;exact q s Y w hT hS
 .cases hc
theorem F9 (t:Tgt)(h:H)(v:V)(h':H):yh t h v h' t h=some (v,h'):=by unfold yh;rw[if_pos ⟨rfl,rfl⟩]
theorem AVs.append {Z:NV}:∀ {a b:List A} {v w:List V},AVs Z a v->AVs Z b w->AVs Z (a++b) (v++w)
 |_,_,_,_,.nil,h=>h
 |_,_,_,_,.cons q r,h=>.cons q (AVs.append r h)
section
variable {P:Program}{G:Γ}{M:TH}
def qn (P:Program)(M:TH)(call:qG):Prop:=∀ f args J K,call f args J K=true->∀ (fr:FR) (Z:NV) (st:St) (vs:List V),Mem M fr Z J st->AVs Z args vs->∃ v h',iW P (.fn f vs) st.h v h'/\Eff M fr Z st v h' K
theorem Cv {ops:Array Oper}{Kt Kf:AS->Bool}(h:zaf ops o J Kt Kf=true)(hM:Mem M fr Z J st):∃ b J',gz ops st.env o=some b/\Up Z J Z J'/\(match b with
  |true=>Kt J'
  |false=>Kf J')=true:=by
 unfold zaf at h;unfold gz;split at h;·rename_i hg;rw[hg];exact⟨true,J,rfl,.refl hM.vr,h⟩
 .rename_i j want hg;rw[hg];obtain⟨p,p1,h⟩:=eU h;obtain⟨d,d1,h⟩:=eU h;obtain⟨a,a1,h⟩:=eU h;obtain⟨v,v1,v2⟩:=hM.er _ _ a1;simp only[p1,d1,v1];split at h
  .rename_i e he;obtain⟨b,rfl,hb⟩:=yq he v2;cases want with
   |true=>obtain⟨J',u,k⟩:=iu h hM.vr hb;refine⟨b,J',?_,u,k⟩;cases b<;>rfl
   |false=>
    obtain⟨J',u,k⟩:=iu h hM.vr hb;refine⟨!b,J',?_,u,?_⟩;·cases b<;>rfl
    .cases b<;>exact k
  .split at h
   .cases v2 with
    |tp q=>exact⟨false,J,rfl,.refl hM.vr,h⟩
   .cases h
def ot (P:Program)(ops:Array Oper)(i n:Nat)(env:Env)(h:H)(env':Env)(h':H):Prop:=
 ∀ F (_:xu F) k Q m Y a w,Sim Y h w->iU Y env a.tmps->(∀ Y' a' w',Sim Y' h' w'->Ext Y h w Y' h' w'->iU Y' env' a'.tmps->a'.defers=a.defers->wpOpsIn F k P ops Q (List.range' (i+n) m) a' w')->wpOpsIn F k P ops Q (List.range' i (n+m)) a w
theorem ot.nil {ops:Array Oper}{i:Nat}{h:H}:ot P ops i 0 env h env h:=fun F hF k Q m Y a w hS he hQ=>by have:=hQ Y a w hS (Ext.refl _ _ _) he rfl;rw[aI];exact this
theorem ot.cons (hG:GOk P G){call:ic}(hcall:pT P call){ops:Array Oper}{i n:Nat}{o:Oper}{env env1 env':Env}{h h1 h':H}(ho:ops[i]?=some o)(hr:xn G call ops [o] env h=some (env1,h1))(k2:ot P ops (i+1) n env1 h1 env' h'):ot P ops i (n+1) env h env' h':=fun F hF k Q m Y a w hS he hQ=>by
 have e1:n+1+m=[o].length+(n+m):=by simp;omega
 rw[e1];refine tF hG hcall hF [o] i (fun j o' hj=>?_) Y env env1 h h1 a w hr hS he fun Y1 a1 w1 s1 s2 s3 s4=>?_
 .cases j with
  |zero=>simp at hj;subst hj;exact ho
  |succ j=>simp at hj
 .refine k2 F hF k Q m Y1 a1 w1 s1 s3 fun Y' a' w' t1 t2 t3 t4=>?_;have:=hQ Y' a' w' t1 (s2.trans t2) t3 (t4.trans s4);rw[show i+1+n=i+(n+1) by omega];exact this
def sC (l:List Oper):List Tmp:=l.filterMap fun o=>o.dst
theorem Cw {env':Env}{d:Option Tmp}(h:env.put d v=some env'){t:Tmp}(ht:d≠some t):env'.tr.get t=env.tr.get t:=by
 obtain⟨sz,tr⟩:=env;unfold Env.put at h;split at h;·cases h;rfl
 .rename_i d;simp only at h;split at h;·cases h;show(tr.put d (some v)).get t=_;rw[T.eL,if_neg fun e=>ht (by rw[e])]
  .cases h
theorem yj {env':Env}{d:Option Tmp}(h:env.put d v=some env'):env'.sz=env.sz:=by
 obtain⟨sz,tr⟩:=env;unfold Env.put at h;split at h;·cases h;rfl
 .simp only at h;split at h<;>cases h;rfl
def DJ (P:Program)(M:TH)(yld:Ip):Prop:=∀ U args J K,yld U args J K=true->∀ (fr:FR) (Z:NV) (st:St) (vs:List V),Mem M fr Z J st->AVs Z args vs->∃ b v h',Z.blks[U]?=some b/\iW P (.yield b vs) st.h v h'/\Eff M fr Z st v h' K
theorem As {G:Γ}(hM:Mem M fr Z J st){t:TG}(h:Dz G J c=some t):∃ tg,act G st.env.get (.call c)=.call (some tg)/\(match t with
  |.fn f l=>∃ vs,tg=.fn f vs/\AVs Z l vs
  |.yd U l=>∃ b vs,tg=.yield b vs/\Z.blks[U]?=some b/\AVs Z l vs):=by
 unfold Dz at h;split at h
 .rename_i f hcal;split at h
  .rename_i f' a cs l hf hl;cases h;obtain⟨fv,fv1,fv2⟩:=eS hM hf;obtain⟨vs,vs1,vs2⟩:=kP hM hl;cases fv2 with
   |@fn _ _ _ a' c' q1 q2=>exact⟨.fn f' (a'++vs++c'),by simp only[act,fX,hcal,fv1,vs1,wM],_,rfl,(q1.append vs2).append q2⟩
  .rename_i U l hf hl;cases h;obtain⟨fv,fv1,fv2⟩:=eS hM hf;obtain⟨vs,vs1,vs2⟩:=kP hM hl;cases fv2 with
   |@yd _ b hb=>exact⟨.yield b vs,by simp only[act,fX,hcal,fv1,vs1];rfl,b,vs,rfl,hb,vs2⟩
  .cases h
 .rename_i r name hcal;split at h;case h_2=>cases h
  rename_i t' a l hf hl;split at h;case h_2=>cases h
  rename_i ty hty;split at h;case h_2=>cases h
  rename_i m hm;split at h;case h_2=>cases h
  rename_i f u hp hfn hd;cases h;obtain⟨fv,fv1,fv2⟩:=eS hM hf;obtain⟨vs,vs1,vs2⟩:=kP hM hl;cases fv2 with
  |@ifc _ _ v hv=>exact⟨.fn f (v :: vs),by simp only[act,fX,hcal,fv1,vs1,sX,hty,hm,hp,hfn,hd],_,rfl,.cons hv vs2⟩
 .cases h
theorem Ga {G:Γ}{call:qG}(hcall:qn P M call){yld:Ip}(hyld:DJ P M yld){K:A->AS->Bool}(h:QW call yld (Dz G J c) J K=true)(hM:Mem M fr Z J st):∃ tg v h',act G st.env.get (.call c)=.call (some tg)/\iW P tg st.h v h'/\Eff M fr Z st v h' K:=by
 unfold QW at h;split at h;·rename_i f l ht;obtain⟨tg,a1,vs,rfl,a2⟩:=As hM ht;obtain⟨v,h1,c1,e⟩:=hcall _ _ _ _ h fr Z st _ hM a2;exact⟨_,v,h1,a1,c1,e⟩
 .rename_i U l ht;obtain⟨tg,a1,b,vs,rfl,a2,a3⟩:=As hM ht;obtain⟨b',v,h1,hb,c1,e⟩:=hyld _ _ _ _ h fr Z st _ hM a3;rw[a2] at hb;cases hb;exact⟨_,v,h1,a1,c1,e⟩
 .cases h
def DK (p:Nat×Option Int)(t:Tgt):Prop:=match t with
 |.fn f vs=>p.1=Nat.succ f/\∀ n,p.2=some n->∃ k,vs.getLast?=some (.int k n)
 |_=>p=(0,none)
theorem Gb {Z:NV}:∀ {l:List A} {vs:List V} {n:Int},Ja l=some n->AVs Z l vs->∃ k,vs.getLast?=some (.int k n)
 |[],_,_,h,_=>by cases h
 |[a],_,n,h,q=>by
  cases q with
  |cons x y=>
   cases y;unfold Ja at h;split at h;·cases h;cases x;exact⟨_,rfl⟩
   .cases h
 |_ :: b :: l,_,n,h,q=>by
  cases q with
  |cons x y=>
   obtain⟨k,hk⟩:=Gb (l:=b :: l) h y;refine⟨k,?_⟩;cases y with
   |cons y1 y2=>rw[List.getLast?_cons_cons];exact hk
theorem Gc {k:Nat×Option Int}{t:Tgt}(hk:DK k t):∀ {fs:List (Nat×Option Int)},Jb k fs=true->∀ p,p∈fs->¬ DK p t
 |[],_,p,hp=>nomatch hp
 |q :: fs,h,p,hp=>by
  simp only[Jb,ae,bf,bw] at h;rcases aq.1 hp with rfl|hp
  .intro hq;rcases h.1 with e|e
   .have:p.1=k.1:=by
     cases t with
     |fn f vs=>rw[hk.1,hq.1]
     |yield=>rw[show k=(0,none) from hk,show p=(0,none) from hq]
    rw[(T.beq_true).2 this] at e;cases e
   .split at e
    .rename_i a b ea eb;cases t with
     |fn f vs=>obtain⟨_,h1⟩:=hk.2 _ eb;obtain⟨_,h2⟩:=hq.2 _ ea;rw[h1] at h2;cases h2;rw[(iT).2 rfl] at e;cases e
     |yield=>rw[show k=(0,none) from hk] at eb;cases eb
    .cases e
  .exact Gc hk h.2 p hp
theorem Jm {G:Γ}(hM:Mem M fr Z J st){tg:Tgt}(h:act G st.env.get (.call c)=.call (some tg)){t:TG}(ht:Dz G J c=some t):DK (FJ (Dz G J c)) tg:=by
 obtain⟨tg',a1,a2⟩:=As hM ht;rw[a1] at h;cases h;rw[ht];cases t with
 |fn f l=>obtain⟨vs,rfl,q⟩:=a2;exact⟨rfl,fun n hn=>Gb hn q⟩
 |yd U l=>obtain⟨b,vs,rfl,_⟩:=a2;rfl
theorem Jn {G:Γ}{call:ic}(hM:Mem M fr Z J st)(h:Mz G o.op J=true):∃ n:Nat,je G call st.env st.h o=some (.int .i64 (Int.ofNat n),st.h):=by
 unfold Mz at h;split at h;case h_2=>cases h
 rename_i c hop;split at h;case h_2=>cases h
 rename_i t x hc ht hx;split at h;case h_2=>cases h
 rename_i ty U hty he;split at h;case h_2=>cases h
 rename_i kt et s kk ka vk va hd hb;obtain⟨v,v1,v2⟩:=eS hM he;obtain⟨b,es,cl,x1,x2,x3,x4⟩:=hM.map hb;cases v2 with
 |@m _ b' hU=>
  rw[x1] at hU;cases hU;refine⟨es.length,?_⟩;unfold je;rw[hop];have:act G st.env.get (.call c)=.rd (fun h=>uO G (G.ty t) h (st.env.get x)):=by simp only[act,fX,hc,ht,‹c.args.toList=[x]›,fh]
  simp only[this,v1,hty,uO,hd,x3]
theorem ML {G:Γ}{call:ic}(hM:Mem M fr Z J st)(h:RI G o.op J=some v):je G call st.env st.h o=some (v,st.h):=by
 unfold RI at h;split at h;case h_2=>cases h
 rename_i t x hop;split at h;case h_2=>cases h
 rename_i b off ty hx hty;split at h;case h_2=>cases h
 rename_i l hl hag;obtain⟨u,u1,u2⟩:=eS hM hx;cases u2;have hg:=hM.gl hl;unfold je;rw[hop];have hi:off<l.length:=by rw[jb] at h;exact(ai.1 h).1
 have hc:cell l.length l .leaf off=some v:=by unfold cell;rw[show Nat.blt off l.length=true from aH hi];simp only[T.eR,yH,h]
 simp only[act,u1,hty,jT,hg,Ev.partAt,hag,hc]
theorem vY (hG:GOk P G){call:qG}(hcall:qn P M call){yld:Ip}(hyld:DJ P M yld){ops:Array Oper}{fr:FR}:∀ (seg:List Oper) (i:Nat),(∀ j o,seg[j]?=some o->ops[i+j]?=some o)->∀ {J:AS} {K:AS->Bool},FL G call yld ops seg J K=true->∀ {Z:NV} {st:St},Mem M fr Z J st ->
  ∃ env' h',(∀ t,t∉sC seg->env'.tr.get t=st.env.tr.get t)/\env'.sz=st.env.sz/\ot P ops i seg.length st.env st.h env' h'/\∃ Z' J',Z.le Z'/\Mem M fr Z' J' ⟨env',h',st.defs⟩/\K J'=true
 |[],i,_,J,K,h,Z,st,hM=>⟨st.env,st.h,fun _ _=>rfl,rfl,.nil,Z,J,.refl _,hM,h⟩
 |o :: rest,i,hi,J,K,h,Z,st,hM=>by
  have hoi:ops[i]?=some o:=hi 0 o rfl;have hi':∀ j o',rest[j]?=some o'->ops[i+1+j]?=some o':=fun j o' h=>by have:=hi (j+1) o' (by simpa using h);rw[show i+1+j=i+(j+1) by omega];exact this
  simp only[FL] at h;obtain⟨b,J1,w1,u1,k1⟩:=Cv h hM;have hM1:=hM.up u1;have go:∀ {call':ic} {v:V} {h1:H} {env1:Env} {Z1:NV} {J2:AS},pT P call'->xn G call' ops [o] st.env st.h=some (env1,h1)->st.env.put o.dst v=some env1->Z.le Z1->Mem M fr Z1 J2 ⟨env1,h1,st.defs⟩->FL G call yld ops rest J2 K=true ->
    ∃ env' h',(∀ t,t∉sC (o :: rest)->env'.tr.get t=st.env.tr.get t)/\env'.sz=st.env.sz/\ot P ops i (o :: rest).length st.env st.h env' h'/\∃ Z' J',Z.le Z'/\Mem M fr Z' J' ⟨env',h',st.defs⟩/\K J'=true:=fun {call' v h1 env1 Z1 J2} hc hr hp hle hM2 hk=>by
   obtain⟨env',h',a1,a0,a2,Z',J',a3,a4,a5⟩:=vY hG hcall hyld rest (i+1) hi' hk hM2;refine⟨env',h',fun t ht=>?_,a0.trans (yj hp),ot.cons hG hc hoi hr a2,Z',J',hle.trans a3,a4,a5⟩;have:o.dst≠some t/\t∉sC rest:=by
    unfold sC at ht;rw[List.filterMap_cons] at ht;split at ht;·rename_i e;exact⟨by rw[e];simp,ht⟩
    .rename_i d e;simp only[aq,not_or] at ht;exact⟨by rw[e];intro q;cases q;exact ht.1 rfl,ht.2⟩
   rw[a1 t this.2];exact Cw hp this.1
  cases b with
  |true=>
   simp only at k1;split at k1
   .
    rename_i hgo;unfold KD at k1;split at k1;case h_2=>cases k1
    rename_i c hop;obtain⟨tg,v,h1,hact,c1,Z2,J2,a,e1,e2,e3,e4⟩:=Ga hcall hyld k1 hM1;obtain⟨env1,J3,p1,p2,p3⟩:=e2.put e3 e4;refine go (F8 c1) (v:=v) ?_ p1 e1 p2 p3;have hst:je G (yh tg st.h v h1) st.env st.h o=some (v,h1):=by unfold je;rw[hop];have hact:act G st.env.get (.call c)=.call (some tg):=hact;simp only[hact];exact F9 _ _ _ _
    simp only[xn,w1,hst,p1]
   .split at k1;·rename_i v hg;obtain⟨env1,J3,p1,p2,p3⟩:=hM1.put (.k v) k1;refine go (call':=fun _ _=>none) (fun _ _ _ _ _ _ _ _ _ h=>nomatch h) (v:=v) (h1:=st.h) ?_ p1 (.refl _) p2 p3;simp only[xn,w1,ML (call:=fun _ _=>none) hM1 hg,p1]
    split at k1
    .rename_i hlen;obtain⟨n,hn⟩:=Jn (call:=fun _ _=>none) hM1 hlen;obtain⟨Z2,J2,e,u2,n2,_,_,k2⟩:=fM (z:=Int.ofNat n) k1 hM1.vr (fun e he=>by
      simp only[aq,aA,or_false] at he;subst he;exact⟨_,eO hM1.vr.z0 _,da _⟩) (fun e he=>nomatch he)
     obtain⟨env1,J3,p1,p2,p3⟩:=(hM1.up u2).put (.i n2) k2;refine go (call':=fun _ _=>none) (fun _ _ _ _ _ _ _ _ _ h=>nomatch h) (v:=.int .i64 (Int.ofNat n)) (h1:=st.h) ?_ p1 u2.le p2 p3;simp only[xn,w1,hn,p1]
    obtain⟨v,h1,s1,Z2,J2,a,e1,e2,e3,e4⟩:=M3 (call:=fun _ _=>none) k1 hM1;obtain⟨env1,J3,p1,p2,p3⟩:=e2.put e3 e4;refine go (call':=fun _ _=>none) (fun _ _ _ _ _ _ _ _ _ h=>nomatch h) (v:=v) ?_ p1 e1 p2 p3;simp only[xn,w1,s1,p1]
  |false=>simp only at k1;obtain⟨env1,J3,p1,p2,p3⟩:=hM1.put (v:=.tuple []) (.tp .nil) k1;refine go (call':=fun _ _=>none) (fun _ _ _ _ _ _ _ _ _ h=>nomatch h) (v:=.tuple []) ?_ p1 (.refl _) p2 p3;simp only[xn,w1,p1]
end
end Go.Ae
namespace Go.Ae
open Go.Ev Go.RowKit
theorem fK {v:V}(h:vR v=true)(d:Nat):V.beq (d+1) v v=true:=by cases v<;>simp only[vR] at h<;>first|cases h;done|simp[V.beq,iT]
theorem K2 {Z:NV}{k:EK}{c:V}(h:Ak k=true)(hk:KV Z k c)(d:Nat):V.beq (d+1) c c=true:=by
 cases hk with
 |int=>exact fK rfl d
 |bool=>exact fK rfl d
 |str=>exact fK rfl d
 |cst v=>exact fK h d
 |re=>cases h
 |re0=>cases h
 |stb=>exact fK rfl d
mutual
theorem uJ {Z:NV}:∀ {d:Nat} {a:A},B6 d a=true->∀ {v:V},AV Z a v->∀ {e:Nat},d<=e->V.beq e v v=true
 |0,_,h,_,_,_,_=>by cases h
 |d+1,a,h,v,hv,0,he=>by omega
 |d+1,a,h,v,hv,e+1,he=>by
  simp only[B6] at h;split at h;·cases hv;exact fK h e
  .cases hv;exact fK rfl e
  .cases hv;exact fK rfl e
  .cases hv;exact fK rfl e
  .cases hv;exact fK rfl e
  .cases hv;simp[V.beq]
  .cases hv<;>first|exact fK rfl e|simp[V.beq]
  .cases hv<;>first|exact fK rfl e|simp[V.beq]
  .cases hv<;>first|exact fK rfl e|simp[V.beq]
  .cases hv;exact fK rfl e
  .simp only[ae] at h;cases hv with
   |fn q r=>simp only[V.beq,wE h.1 q (show d<=e by omega),wE h.2 r (show d<=e by omega),decide_true,dN]
  .obtain⟨n,pat,tr,rfl,cr⟩:=hv.cr;have:∀ (k i:Nat),i+k=n->jf (V.beq e) n pat tr pat tr i k=true:=fun k=>by
    induction k with
    |zero=>intro i _;rfl
    |succ k ih=>intro i hi;obtain⟨c,c1,c2⟩:=cr.get (show i<n by omega);simp only[jf,c1,K3 h c2 (show d<=e by omega),ih (i+1) (by omega),dN]
   simp only[V.beq,this n 0 (by omega),Bool.and_true];exact(T.beq_true).2 rfl
  .cases hv
  .cases hv
  .cases hv with
   |tp q=>simp only[V.beq];exact wE h q (show d<=e by omega)
  .cases hv with
   |ifc q=>simp only[V.beq,uJ h q (show d<=e by omega),Bool.and_true];exact(T.beq_true).2 rfl
  .cases h
theorem wE {Z:NV}:∀ {d:Nat} {l:List A},fm (B6 d) l=true->∀ {vs:List V},AVs Z l vs->∀ {e:Nat},d<=e->js (V.beq e) vs vs=true
 |d,[],h,vs,hv,e,he=>by cases hv;rfl
 |d,a :: l,h,vs,hv,e,he=>by
  simp only[fm] at h;split at h
  .rename_i q;cases hv with
   |cons x y=>simp only[js,uJ q x he,wE h y he,dN]
  .cases h
theorem K3 {Z:NV}:∀ {d:Nat} {l:List A},fm (B6 d) l=true->∀ {i:Nat} {c:V},CA Z l i c->∀ {e:Nat},d<=e->V.beq e c c=true
 |d,[],h,i,c,hc,e,he=>by cases hc
 |d,a :: l,h,i,c,hc,e,he=>by
  simp only[fm] at h;split at h
  .rename_i q;cases hc with
   |here p x=>exact uJ q x he
   |skip x y=>exact K3 h y he
   |row a1 b1 c1 d1 e1=>
    cases d with
    |zero=>cases q
    |succ d=>
     cases e with
     |zero=>omega
     |succ e=>
      simp only[B6] at q;split at q<;>first|cases q;done|skip
      all_goals rename_i heq
      all_goals first|cases heq;done|skip
      .cases heq;exact K2 (gL q _ (aC d1)) e1 e
      .cases heq;simp only[ae] at q;exact K2 (gL q.1 _ (aC d1)) e1 e
   |foc a1 b1 c1 d1 e1 p1 x=>
    cases d with
    |zero=>cases q
    |succ d=>simp only[B6,ae] at q;exact uJ (gL q.2 _ (aC e1)) x (by omega)
  .cases h
end
theorem fS (B:Bs)(m:Nat):∀ (al:List (Nat×Nat×O)),(hv B m al).next=B.h.next
 |[]=>rfl
 |a :: l=>by
  simp only[hv];split;·rw[fB];exact fS B m l
  .exact fS B m l
theorem G4 {B:Bs}{m b a:Nat}{o:O}:∀ {al:List (Nat×Nat×O)},(a,b,o)∈al->bit m a=true->bit B.mask a=false->(∀ x,x∈al->x.2.1=b->x=(a,b,o))->(hv B m al).tr.get b=some o
 |[],h,_,_,_=>by simp at h
 |x :: l,h,h1,h2,h3=>by
  simp only[hv];by_cases e:x.2.1=b;·have:=h3 x (by simp) e;subst this;simp only[h1,h2,Bool.not_false,dN];rw[fG,if_pos rfl]
  .have hm:(a,b,o)∈l:=by
    rcases aq.1 h with q|q;·rw[<- q] at e;exact absurd rfl e
    .exact q
   have ih:=G4 hm h1 h2 fun y hy=>h3 y (aB _ hy);split;·rw[fG,if_neg fun q=>e q.symm];exact ih
   .exact ih
def KF (Z:NV)(mem:T (Nat×AO))(x:Nat):Prop:=∃ U s ao hp,mem.get U=some (s,ao)/\Z.objs[s]?=some hp/\∃ p,p∈hp/\p.1=x
noncomputable def lB (Z:NV)(mem:T (Nat×AO))(h:H):FR:=⟨h.next,KF Z mem,h.tr.get⟩
section
variable {M:TH}{fr:FR}{Z:NV}{J:AS}{st:St}
theorem Mem.own (hM:Mem M fr Z J st){sz:Nat}{tm:T A}{tr:T V}(he:ER Z tm tr):Mem M (lB Z J.mem st.h) Z { J with sz:=sz,tm:=tm } ⟨⟨sz,tr⟩,st.h,[]⟩:=by
 refine⟨⟨hM.vr.ni,hM.vr.ns,hM.vr.nb,hM.vr.no,hM.vr.z0,hM.vr.zr⟩,rfl,he,⟨fun U s ao h=>?_,hM.hr.sep,fun _ _ _=>rfl,aF _,fun q hq=>?_⟩,.nil,(fun b hb=>by simp at hb),fun b hb=>by simp at hb⟩
 rotate_left
 .obtain⟨a,c,d⟩:=hM.hr.gl q hq;refine⟨bh a hM.hr.le,fun⟨U,s,ao,hp,h1,h2,p,hp',e⟩=>?_,?_⟩
  .obtain⟨b,hp2,x1,x2,x3,x4⟩:=hM.hr.at' U s ao h1;rw[h2] at x2;cases x2;obtain⟨_,_,y⟩:=x4 p hp';rw[e] at y;rcases y with y|y;·exact c y
   .omega
  .show st.h.tr.get q.1=_;rw[hM.hr.frame _ a c];exact d
 obtain⟨b,hp,x1,x2,x3,x4⟩:=hM.hr.at' U s ao h;exact⟨b,hp,x1,x2,x3,fun p hp'=>let ⟨y1,y2,_⟩:=x4 p hp';⟨y1,y2,.inl ⟨U,s,ao,hp,h,x2,p,hp',rfl⟩⟩⟩
theorem Mem.back (hM:Mem M fr Z J st){Z':NV}{J':AS}{env':Env}{h':H}(hle:Z.le Z')(hM':Mem M (lB Z J.mem st.h) Z' J' ⟨env',h',[]⟩):Mem M fr Z' { J' with sz:=J.sz,tm:=J.tm } ⟨st.env,h',st.defs⟩:=by
 have old:∀ x,KF Z J.mem x->x<st.h.next/\(fr.F x\/fr.n<=x):=fun x ⟨U,s,ao,hp,h1,h2,p,hp',e⟩=>by obtain⟨b,hp2,x1,x2,x3,x4⟩:=hM.hr.at' U s ao h1;rw[h2] at x2;cases x2;subst e;exact(x4 p hp').2
 have keep:∀ x,x<st.h.next->¬ KF Z J.mem x->h'.tr.get x=st.h.tr.get x:=fun x h1 h2=>hM'.hr.frame x h1 h2;have hnext:st.h.next<=h'.next:=hM'.hr.le;refine⟨⟨hM'.vr.ni,hM'.vr.ns,hM'.vr.nb,hM'.vr.no,hM'.vr.z0,hM'.vr.zr⟩,hM.sz,hM.er.mono hle,⟨fun U s ao h=>?_,hM'.hr.sep,fun x hx hF=>?_,bF hM.hr.le hnext,hM.hr.gl⟩,hM.df.nd,fun d hd=>?_,fun d hd U s ao hp h e p hp'=>?_⟩
 .obtain⟨b,hp,x1,x2,x3,x4⟩:=hM'.hr.at' U s ao h;refine⟨b,hp,x1,x2,x3,fun p hp'=>?_⟩;obtain⟨y1,y2,y3⟩:=x4 p hp';refine⟨y1,y2,?_⟩;rcases y3 with q|q;·exact(old _ q).2
  .exact .inr (bF hM.hr.le q)
 .have hn:¬ KF Z J.mem x:=fun q=>by
   rcases(old x q).2 with g|g;·exact hF g
   .omega
  rw[keep x (by have:=hM.hr.le;omega) hn];exact hM.hr.frame x hx hF
 .obtain⟨d1,d2,d3⟩:=hM.df.at' d hd;have hn:¬ KF Z J.mem d:=fun⟨U,s,ao,hp,h1,h2,p,hp',e⟩=>hM.df.sep d hd _ _ _ _ h1 h2 p hp' e;exact⟨by rw[keep d d2 hn];exact d1,by show d<h'.next;omega,d3⟩
 .obtain⟨b,hp2,x1,x2,x3,x4⟩:=hM'.hr.at' U s ao h;rw[e] at x2;cases x2;have d2:=(hM.df.at' d hd).2.1;intro e2;rcases(x4 p hp').2.2 with⟨U',s',ao',hp3,h1,h2,p2,hp2',e3⟩|q;·exact hM.df.sep d hd _ _ _ _ h1 h2 p2 hp2' (e3.trans e2)
  .have:st.h.next<=p.1:=q;omega
end
theorem xN {G:Γ}{e:Operand->Option V}{op:Op}{J:AS}{K:A->AS->Bool}(h:Dy G op J K=true):match lu op with
  |0=>∃ x,act G e op=.val x
  |1=>∃ f,act G e op=.rd f
  |2=>∃ f,act G e op=.al f
  |3=>∃ f,act G e op=.ef f
  |4=>∃ f,act G e op=.rd f
  |_=>True:=by
 unfold Dy at h;split at h<;>first|cases h;done|exact⟨_,rfl⟩|skip
 .split at h;·cases h
  .rename_i q;exact⟨_,by simp only[act,q];rfl⟩
 .split at h;case h_2=>cases h
  exact⟨_,rfl⟩
 .rename_i c;split at h
  .rename_i b hb;obtain⟨l,hl,h⟩:=eU h;generalize hts:c.argTypes.toList=ts at h;unfold rf at h;split at h
   .rename_i t x;have hk:lu (.call c)=4:=by simp only[lu,hb]
    rw[hk];obtain⟨args,ha⟩:∃ args,c.args.toList=args:=⟨_,rfl⟩;rw[ha] at hl;cases args with
    |nil=>cases hl
    |cons y l=>
     cases l with
     |cons z l=>
      simp only[lq] at hl;split at hl;·rename_i hl2;split at hl2<;>cases hl2;cases hl
      .cases hl
     |nil=>exact⟨_,by simp only[act,fX,hb,hts,ha,fh];rfl⟩
   .have hk:lu (.call c)=0:=by simp only[lu,hb]
    rw[hk];exact⟨_,by simp only[act,fX,hb,fh];rfl⟩
   .have hk:lu (.call c)=0:=by simp only[lu,hb]
    rw[hk];exact⟨_,by simp only[act,fX,hb,fh];rfl⟩
   .rename_i t t' x y;have hk:lu (.call c)=3:=by simp only[lu,hb]
    rw[hk];obtain⟨args,ha⟩:∃ args,c.args.toList=args:=⟨_,rfl⟩;rw[ha] at hl;have:∃ u v,args=[u,v]:=by
     cases args with
     |nil=>cases hl
     |cons u l=>
      simp only[lq] at hl;split at hl
      .rename_i r _ hl2;cases hl;cases l with
       |nil=>cases hl2
       |cons v l=>
        simp only[lq] at hl2;split at hl2
        .rename_i hl3;cases hl2;cases l with
         |nil=>exact⟨u,v,rfl⟩
         |cons w l=>simp only[lq] at hl3;split at hl3<;>cases hl3
        .cases hl2
      .cases hl
    obtain⟨u,v,rfl⟩:=this;exact⟨_,by simp only[act,fX,hb,hts,ha,fh];rfl⟩
   .rename_i t x y;have hk:lu (.call c)=3:=by simp only[lu,hb]
    rw[hk];obtain⟨args,ha⟩:∃ args,c.args.toList=args:=⟨_,rfl⟩;rw[ha] at hl;have:∃ u v,args=[u,v]:=by
     cases args with
     |nil=>cases hl
     |cons u l=>
      simp only[lq] at hl;split at hl
      .rename_i r _ hl2;cases hl;cases l with
       |nil=>cases hl2
       |cons v l=>
        simp only[lq] at hl2;split at hl2
        .rename_i hl3;cases hl2;cases l with
         |nil=>exact⟨u,v,rfl⟩
         |cons w l=>simp only[lq] at hl3;split at hl3<;>cases hl3
        .cases hl2
      .cases hl
    obtain⟨u,v,rfl⟩:=this;exact⟨_,by simp only[act,fX,hb,hts,ha,fh];rfl⟩
   .rename_i t x;have hk:lu (.call c)=0:=by simp only[lu,hb]
    rw[hk];obtain⟨args,ha⟩:∃ args,c.args.toList=args:=⟨_,rfl⟩;rw[ha] at hl;cases args with
    |nil=>cases hl
    |cons y l=>
     cases l with
     |cons z l=>
      simp only[lq] at hl;split at hl;·rename_i hl2;split at hl2<;>cases hl2;cases hl
      .cases hl
     |nil=>exact⟨_,by simp only[act,fX,hb,hts,ha,fh];rfl⟩
   .rename_i t x;have hk:lu (.call c)=3:=by simp only[lu,hb]
    rw[hk];obtain⟨args,ha⟩:∃ args,c.args.toList=args:=⟨_,rfl⟩;rw[ha] at hl;cases args with
    |nil=>cases hl
    |cons y l=>
     cases l with
     |cons z l=>
      simp only[lq] at hl;split at hl;·rename_i hl2;split at hl2<;>cases hl2;cases hl
      .cases hl
     |nil=>exact⟨_,by simp only[act,fX,hb,hts,ha,fh];rfl⟩
   .cases h
  .cases h
section
variable {M:TH}{fr:FR}{Z:NV}{J:AS}{st:St}
theorem Mem.Mt (hM:Mem M fr Z J st){d:Option Tmp}{a:A}{v:V}(ha:AV Z a v){K:AS->Bool}(h:J.put d a K=true):∃ env' J',st.env.put d v=some env'/\Mem M fr Z J' ⟨env',st.h,st.defs⟩/\K J'=true/\J'.mem=J.mem:=by
 obtain⟨⟨sz,tr⟩,hh,defs⟩:=st;unfold AS.put at h;split at h;·exact⟨_,J,rfl,hM,h,rfl⟩
 .rename_i t;split at h
  .rename_i q;have e:sz=J.sz:=hM.sz;refine⟨⟨sz,tr.put t (some v)⟩,{ J with tm:=J.tm.put t (some a) },by simp only[Env.put];rw[e,q],⟨⟨hM.vr.ni,hM.vr.ns,hM.vr.nb,hM.vr.no,hM.vr.z0,hM.vr.zr⟩,e,fun t' a' h'=>?_,hM.hr,hM.df⟩,h,rfl⟩;simp only at h';rw[T.eL] at h';show ∃ v',(tr.put t (some v)).get t'=some v'/\_;rw[T.eL];split at h';·rename_i e;cases h';rw[if_pos e];exact⟨v,rfl,ha⟩
   .rename_i e;rw[if_neg e];exact hM.er t' a' h'
  .cases h
theorem Mem.OZ (hM:Mem M fr Z J st):Mem M (lB Z J.mem st.h) Z J ⟨st.env,st.h,[]⟩:=by have:=hM.own (sz:=J.sz) (tm:=J.tm) (tr:=st.env.tr) hM.er;obtain⟨⟨sz,tr⟩,hh,defs⟩:=st;have e:sz=J.sz:=hM.sz;subst e;exact this
theorem Mem.Mu (hM:Mem M fr Z J st){Z':NV}{J':AS}{env':Env}{h':H}(hle:Z.le Z')(hM':Mem M (lB Z J.mem st.h) Z' J' ⟨env',h',[]⟩):Mem M fr Z' J' ⟨env',h',st.defs⟩:=
 ⟨⟨hM'.vr.ni,hM'.vr.ns,hM'.vr.nb,hM'.vr.no,hM'.vr.z0,hM'.vr.zr⟩,hM'.sz,hM'.er,(hM.back hle hM').hr,(hM.back hle hM').df⟩
theorem Mem.RC (hM:Mem M fr Z J st){ao:AO}{o:O}{id:Nat}(h1:fr.n<=id)(h2:id<st.h.next)(h3:∀ U s ao hp,J.mem.get U=some (s,ao)->Z.objs[s]?=some hp->∀ p,p∈hp->p.1≠id)(h4:id∉st.defs)(h:∀ Z':NV,Z.le Z'->AOR M Z' ao id [(id,o)]):
  ∃ Z',Z.le Z'/\Z'.blks[J.nb]?=some id/\Z'.objs[J.no]?=some [(id,o)]/\Mem M fr Z' (J.add ao) ⟨st.env,st.h.set id (some o),st.defs⟩:=by
 have hle:Z.le { Z with objs:=Z.objs++[[(id,o)]],blks:=Z.blks++[id] }:=NV.le.trans (b:={ Z with objs:=Z.objs++[[(id,o)]] }) lG (BO (Z:={ Z with objs:=Z.objs++[[(id,o)]] }));have hnew:(Z.objs++[[(id,o)]])[J.no]?=some [(id,o)]:=by rw[<- hM.vr.no];simp
 have hbl:(Z.blks++[id])[J.nb]?=some id:=by rw[<- hM.vr.nb];simp
 have fresh:∀ E s' a,J.mem.get E=some (s',a)->E≠J.nb/\∃ c hp,Z.blks[E]?=some c/\Z.objs[s']?=some hp/\∀ p,p∈hp->p.1≠id:=fun E s' a q=>by obtain⟨c,hp,y1,y2,y3,y4⟩:=hM.hr.at' _ _ _ q;refine⟨fun e=>?_,c,hp,y1,y2,fun p hp'=>h3 _ _ _ _ q y2 p hp'⟩;have:=(ai.1 y1).1;rw[hM.vr.nb] at this;omega
 refine⟨_,hle,hbl,hnew,⟨⟨hM.vr.ni,hM.vr.ns,by show(Z.blks++[id]).length=J.nb+1;simp[hM.vr.nb],by show(Z.objs++[[(id,o)]]).length=J.no+1;simp[hM.vr.no],hle.i hM.vr.z0,hM.vr.zr.mono hle⟩,hM.sz,hM.er.mono hle,⟨fun E s' a q=>?_,fun E s1 a1 E' s2 a2 q1 q2 hne hp hp' e1 e2=>?_,fun x hx hF=>?_,by rw[fB];exact hM.hr.le,hM.hr.gl⟩,hM.df.nd,fun d hd=>?_,fun d hd E s' a hp q e=>?_⟩⟩
 .simp only[AS.add,T.eL] at q;split at q;·rename_i e;subst e;cases q;refine⟨_,_,hbl,hnew,h _ hle,fun p hp=>?_⟩;simp only[aq,aA,or_false] at hp;subst hp;exact⟨by rw[fG,if_pos rfl],by rw[fB];exact h2,.inr h1⟩
  .rename_i hne;obtain⟨c,hp,y1,y2,y3,y4⟩:=hM.hr.at' _ _ _ q;refine⟨c,hp,hle.b y1,hle.o y2,y3.mono hle,fun p hp'=>?_⟩;obtain⟨z1,z2,z3⟩:=y4 p hp';refine⟨?_,by rw[fB];exact z2,z3⟩;rw[fG,if_neg (h3 _ _ _ _ q y2 p hp')];exact z1
 .simp only[AS.add,T.eL] at q1 q2;split at q1
  .rename_i e;subst e;cases q1;have e1:(Z.objs++[[(id,o)]])[J.no]?=some hp:=e1;rw[hnew] at e1;cases e1;split at q2;·rename_i e;exact absurd e.symm hne
   .obtain⟨_,c,hp2,y1,y2,y3⟩:=fresh _ _ _ q2;rw[hle.o y2] at e2;cases e2;intro p hp q hq;simp only[aq,aA,or_false] at hp;subst hp;exact fun e=>y3 q hq e.symm
  .obtain⟨_,c,hp1,y1,y2,y3⟩:=fresh _ _ _ q1;rw[hle.o y2] at e1;cases e1;split at q2;·rename_i e;subst e;cases q2;have e2:(Z.objs++[[(id,o)]])[J.no]?=some hp':=e2;rw[hnew] at e2;cases e2;intro p hp q hq;simp only[aq,aA,or_false] at hq;subst hq;exact y3 p hp
   .obtain⟨_,c',hp2,w1,w2,w3⟩:=fresh _ _ _ q2;rw[hle.o w2] at e2;cases e2;exact hM.hr.sep _ _ _ _ _ _ q1 q2 hne _ _ y2 w2
 .rw[fG,if_neg (by omega)];exact hM.hr.frame x hx hF
 .obtain⟨d1,d2,d3⟩:=hM.df.at' d hd;exact⟨by rw[fG,if_neg (fun e=>h4 (by rw[<- e];exact hd))];exact d1,by rw[fB];exact d2,d3⟩
 .simp only[AS.add,T.eL] at q;split at q;·rename_i e;subst e;cases q;have e1:(Z.objs++[[(id,o)]])[J.no]?=some hp:=e;rw[hnew] at e1;cases e1;intro p hp;simp only[aq,aA,or_false] at hp;subst hp;exact fun e=>h4 (by rw[show id=d from e];exact hd)
  .obtain⟨c,hp1,y1,y2,y3,y4⟩:=hM.hr.at' _ _ _ q;rw[hle.o y2] at e;cases e;exact hM.df.sep d hd _ _ _ _ q y2
end
variable {len m:Nat}{Z Z':NV}{v:V}{J':AS}
def allM (len:Nat):Nat:=Nat.sub (Nat.pow 2 len) 1
theorem CT {a:Nat}(h:a<len):bit (allM len) a=true:=by rw[tf];show(2 ^ len - 1).testBit a=true;rw[Nat.testBit_two_pow_sub_one];simp[h]
def AT (n0 i len x:Nat):Prop:=∀ j,i<=j->j<len->x≠n0+j
theorem AT.le {n0 i i' x:Nat}(h:AT n0 i len x)(hi:i<=i'):AT n0 i' len x:=fun j a b=>h j (bF hi a) b
theorem CU {B:Bs}{m m':Nat}:∀ {al:List (Nat×Nat×O)},(∀ x,x∈al->bit m x.1=bit m' x.1)->hv B m al=hv B m' al
 |[],_=>rfl
 |a :: l,h=>by simp only[hv];rw[h a (by simp),CU (al:=l) fun x hx=>h x (aB _ hx)]
theorem He {m:Nat}{h:H}{m':Nat}:∀ {al:List (Nat×Nat×O)},(∀ x,x∈al->bit m x.1=true)->hv ⟨m,h⟩ m' al=h
 |[],_=>rfl
 |a :: l,q=>by simp only[hv];rw[q a (by simp),He (al:=l) fun x hx=>q x (aB _ hx)];simp
def Claim (M:TH)(n0 i len:Nat)(Z:NV)(al:List (Nat×Nat))(eK:List (Nat×Nat×O))(B:Bs)(Mm:T (Nat×AO)):Prop:=
 ∀ U s ao,Mm.get U=some (s,ao)->∃ b hp,Z.blks[U]?=some b/\Z.objs[s]?=some hp/\AT n0 i len b/\(∀ o,(b,o)∈hp->∀ m,(∀ a,(U,a)∈al->bit m a=true)->(hv B m eK).tr.get b=some o)/\AOR M Z ao b hp
theorem Claim.mono {M:TH}{n0 i i' len:Nat}{Z Z':NV}{al:List (Nat×Nat)}{eK:List (Nat×Nat×O)}{B:Bs}{Mm:T (Nat×AO)}(h:Claim M n0 i len Z al eK B Mm)(hi:i<=i')(hle:Z.le Z'):Claim M n0 i' len Z' al eK B Mm:=fun U s ao q=>
 let ⟨b,hp,a1,a2,a3,a4,a5⟩:=h U s ao q
 ⟨b,hp,hle.b a1,hle.o a2,a3.le hi,a4,a5.mono hle⟩
theorem Claim.alloc {M:TH}{n0 i:Nat}{al:List (Nat×Nat)}{eK:List (Nat×Nat×O)}{B:Bs}{Mm:T (Nat×AO)}(h:Claim M n0 i len Z al eK B Mm)(hi:i<len)(hle:Z.le Z'){nb s:Nat}{ao:AO}{o:O}(hao:AOR M Z' ao (n0+i) [(n0+i,o)])(hnb:Z.blks.length=nb)(h1:Z'.blks[nb]?=some (n0+i))(h2:Z'.objs[s]?=some [(n0+i,o)])(hB:bit B.mask i=false)
  (hal:∀ x,x∈eK->x.2.1=n0+x.1/\x.1<i):
  Claim M n0 (i+1) len Z' ((nb,i) :: al) ((i,n0+i,o) :: eK) B (Mm.put nb (some (s,ao))):=fun U s' ao' q=>by
 rw[T.eL] at q;split at q
 .rename_i e;cases q;subst e;refine⟨n0+i,_,h1,h2,fun j a b e=>by omega,fun o' ho m hm=>?_,hao⟩;simp only[aq,aA,or_false,ez,true_and] at ho;subst ho;refine G4 (a:=i) (by simp) (hm i (by simp)) hB fun x hx e=>?_;rcases aq.1 hx with q|q
  .exact q
  .have:=hal x q;omega
 .rename_i hne;obtain⟨b,hp,a1,a2,a3,a4,a5⟩:=h U s' ao' q;refine⟨b,hp,hle.b a1,hle.o a2,a3.le (by omega),fun o' ho m hm=>?_,a5.mono hle⟩;have:=a4 o' ho m fun a ha=>hm a (aB _ ha);simp only[hv];split;·rw[fG,if_neg (a3 i (aF _) hi)];exact this
  .exact this
inductive EfR (C:Bs->T (Nat×AO)->Prop):List EF->List (Nat×Bs)->Prop
 |nil:EfR C [] []
 |cons {e:EF} {v:Nat×Bs} {l:List EF} {l':List (Nat×Bs)} (h1:e.i=v.1) (h2:e.m=v.2.mask) (h3:C v.2 e.mem) (h:EfR C l l'):EfR C (e :: l) (v :: l')
theorem EfR.imp {C C':Bs->T (Nat×AO)->Prop}{l:List EF}{l':List (Nat×Bs)}(h:EfR C l l')(f:∀ B Mm,C B Mm->C' B Mm):EfR C' l l':=by
 induction h with
 |nil=>exact .nil
 |cons a b c _ ih=>exact .cons a b (f _ _ c) ih
theorem EfR.map {C C':Bs->T (Nat×AO)->Prop}{g:T (Nat×AO)->T (Nat×AO)}{l:List EF}{l':List (Nat×Bs)}(h:EfR C l l')(f:∀ (e:EF) (v:Nat×Bs),e∈l->e.m=v.2.mask->C v.2 e.mem->C' v.2 (g e.mem)):EfR C' (l.map fun x=>{ x with mem:=g x.mem }) l':=by
 induction h with
 |nil=>exact .nil
 |@cons e v l l' a b c _ ih=>exact .cons a b (f e v (by simp) b c) (ih fun e v he=>f e v (aB _ he))
def DY (Z:NV)(q:RD)(b:Nat)(f:H->Option V)(v:V):Prop:=∀ off a,q.cel=some (off,a)->AV Z a v/\∀ (h2:H) (t:Option TypeId) (n:Nat) (pat:List V) (tr:T V),h2.tr.get b=some (.cells t n pat tr)\/h2.tr.get b=some (.ro t n pat tr)->cell n pat tr off=some v->f h2=some v
theorem DY.mono {Z Z':NV}(hle:Z.le Z'){q:RD}{b:Nat}{f:H->Option V}{v:V}(h:DY Z q b f v):DY Z' q b f v:=fun off a e=>let ⟨x,y⟩:=h off a e;⟨x.mono hle,y⟩
theorem K7 {o o':Off}(h1:o.st=0)(h2:o'.st=0)(h3:o.o=o'.o){x y:Nat}(hx:pC Z o x)(hy:pC Z o' y):x=y:=by obtain⟨a,_,e1⟩:=hx;obtain⟨b,_,e2⟩:=hy;rw[e1,e2,h1,h2,h3];omega
theorem Hf {a b:A}(h:MA a b=true){w:V}(ha:AV Z a v)(hb:AV Z b w):v=w:=by
 have num:∀ {x y:LE} {p q:Int},x.1=y.1->x.2=y.2->Num Z x p->Num Z y q->p=q:=fun {x y p q} e1 e2 h1 h2=>by have:x=y:=bQ e1 e2;subst this;exact h1.fn h2
 unfold MA at h;split at h;·cases ha;cases hb;exact nu h
 .simp only[ae,decide_eq_true_eq,T.beq_true,iT] at h;cases ha with
  |i h1=>cases hb with
   |i h2=>rw[h.1.1,num h.1.2 h.2 h1 h2]
 .simp only[ae,T.beq_true] at h;obtain⟨⟨⟨e1,e2⟩,e3⟩,e4⟩:=h;subst e1;cases ha with
  |p h1 k1=>cases hb with
   |p h2 k2=>rw[h1] at h2;cases h2;rw[K7 e2 e3 e4 k1 k2]
 .simp only[ae,T.beq_true,iT] at h;obtain⟨⟨⟨⟨⟨⟨e1,e2⟩,e3⟩,e4⟩,e5⟩,e6⟩,e7⟩:=h;subst e1;cases ha with
  |sl h1 k1 l1 c1=>cases hb with
   |sl h2 k2 l2 c2=>
    rw[h1] at h2;cases h2;have q1:=K7 e2 e3 e4 k1 k2;have q2:=num e5 e6 l1 l2;have q2:=Int.ofNat.inj q2;subst q1 q2;split at e7
    .simp only[ae,T.beq_true,iT] at e7;cases c1 with
     |kn c1=>cases c2 with
      |kn c2=>have:=Int.ofNat.inj (num e7.1 e7.2 c1 c2);rw[this]
    .simp only[ae,T.beq_true,iT] at e7;cases c1 with
     |al c1=>cases c2 with
      |al c2=>have:=Int.ofNat.inj (num e7.1.1 e7.1.2 c1 c2);rw[this,e7.2]
    .cases e7
 .simp only[T.beq_true] at h;subst h;cases ha with
  |m h1=>cases hb with
   |m h2=>rw[h1] at h2;cases h2;rfl
 .cases h
theorem CV:∀ {l r:List EK},qc l r=true->l=r
 |[],[],_=>rfl
 |[],_ :: _,h=>by cases h
 |_ :: _,[],h=>by cases h
 |a :: l,b :: r,h=>by
  simp only[qc,ae] at h;rw[CV h.2];have h1:=h.1;split at h1;·rw[of_decide_eq_true h1]
  .rfl
  .rfl
  .cases h1
theorem KsV.any {Z1:NV}{ka:Bool}:∀ {kk:List EK},qc kk kk=true->∀ {v:V},KsV Z ka kk v->KsV Z1 ka kk v:=fun {kk} hs {v} hv=>by
 have one:∀ {kk:List EK},qc kk kk=true->∀ (i:Nat) (k:EK) (v:V),kk[i]?=some k->KV Z k v->KV Z1 k v:=fun {kk}=>by
  induction kk with
  |nil=>intro _ i k v h;simp at h
  |cons a l ih=>
   intro hs i k v h hv;simp only[qc,ae] at hs;cases i with
   |succ i=>exact ih hs.2 i k v (by simpa using h) hv
   |zero=>
    simp at h;subst h;have h1:=hs.1;split at h1
    .cases hv with
     |int r _ _=>exact .int r (fun _ e=>nomatch e) (fun _ e=>nomatch e)
    .cases hv;exact .bool _
    .cases hv;exact .str _
    .cases h1
 cases ka with
 |false=>obtain⟨k,rfl,hk⟩:=hv;exact⟨k,rfl,one hs 0 k v rfl hk⟩
 |true=>obtain⟨n,pat,tr,e,hn,hc⟩:=hv;refine⟨n,pat,tr,e,hn,fun i hi=>?_⟩;obtain⟨c,k,a,b,d⟩:=hc i hi;exact⟨c,k,a,b,one hs i k c b d⟩
def SB (q:RD)(o:O)(b:Nat)(f:H->Option V)(v:V):Prop:=∀ z ka kk,q.lk=some (z,ka,kk)->qc kk kk=true->∃ es0 cl0,o=.map es0 cl0/\∀ (Z1:NV) es cl (h2:H),QN z es0 es->(∀ e,e∈es->KsV Z1 ka kk e.1)->h2.tr.get b=some (.map es cl)->f h2=some v
def Nh (G:Γ)(Z:NV)(D:DA)(r:Nat×Nat×Env×Op×V):Prop:=
 ∃ f,act G r.2.2.1.get r.2.2.2.1=.rd f/\V.beq 6 r.2.2.2.2 r.2.2.2.2=true/\((∀ h2,f h2=some r.2.2.2.2)\/∃ q,q∈D.rd/\q.i=r.1/\q.m=r.2.1/\ckA q D.m0 D.ef=true /\
  ∃ b hp o,Z.blks[q.U]?=some b/\Z.objs[q.s]?=some hp/\(b,o)∈hp/\(∀ a,(q.U,a)∈D.al->bit q.m a=true)/\(∀ h2:H,h2.tr.get b=some o->f h2=some r.2.2.2.2)/\DY Z q b f r.2.2.2.2/\SB q o b f r.2.2.2.2)
theorem rA {Mm:T (Nat×AO)}{U s:Nat}(h:ij Mm U s=true):∃ ao,Mm.get U=some (s,ao):=by
 unfold ij at h;split at h;·rename_i s' ao e;rw[T.beq_true] at h;subst h;exact⟨ao,e⟩
 .cases h
section
variable {M:TH}{G:Γ}{n0 i len:Nat}{Z:NV}{al:List (Nat×Nat)}{eK:List (Nat×Nat×O)}{B0:Bs}{m0:T (Nat×AO)}
theorem sO {env:Env}{op:Op}{f:H->Option V}(ha:act G env.get op=.rd f)(hv':V.beq 6 v v=true){B:Bs}(h:f (hv B m eK)=some v):wO G m env op v eK B=true:=by unfold wO;rw[ha];simp only[h,hv']
theorem CW {j m:Nat}{env:Env}{op:Op}{v:V}:∀ {eY:List (Nat×Bs)},(∀ B,wO G m env op v eK B=true)->JQ G j m env op v eK B0 eY=true
 |[],h=>h _
 |e :: l,h=>by simp only[JQ,h,CW (eY:=l) h,Bool.or_true,dN]
theorem Ni {q:RD}{env:Env}{op:Op}(hc:∀ B Mm,Claim M n0 i len Z al eK B Mm->vS Mm q=true->wO G q.m env op v eK B=true)(h0:Claim M n0 i len Z al eK B0 m0){Ee:List EF}{eY:List (Nat×Bs)}(hEe:EfR (Claim M n0 i len Z al eK) Ee eY):ckA q m0 Ee=true->JQ G q.i q.m env op v eK B0 eY=true:=by
 induction hEe with
 |nil=>exact hc _ _ h0
 |cons h1 h2 h3 _ ih=>
  intro h;simp only[ckA,ae,bf] at h;obtain⟨a,b⟩:=h;simp only[JQ,ae,bf];refine⟨?_,?_⟩
  .rcases a with a|a;·exact .inl (by rw[<- h2];exact a)
   .exact .inr (hc _ _ h3 a)
  .rcases b with b|b;·exact .inl (by rw[<- h1];exact b)
   .exact .inr (ih b)
theorem CX (hz:Z.ints[0]?=some 0){eY:List (Nat×Bs)}{D:DA}(hEe:EfR (Claim M n0 i len Z D.al eK) D.ef eY)(h0:Claim M n0 i len Z D.al eK B0 D.m0):∀ {reads:List (Nat×Nat×Env×Op×V)},(∀ r,r∈reads->Nh G Z D r)->oJ G eK B0 eY reads=true
 |[],_=>rfl
 |r :: l,h=>by
  simp only[oJ,ae];refine⟨?_,CX hz hEe h0 fun r hr=>h r (aB _ hr)⟩;obtain⟨f,f1,f2,f3⟩:=h r (by simp);rcases f3 with f3|⟨q,q1,q2,q3,q4,b,hp,o,b1,b2,b3,b4,b5,b6,b7⟩
  .exact CW fun B=>sO f1 f2 (f3 _)
  .rw[<- q2,<- q3];refine Ni (fun B Mm hC hs=>?_) h0 hEe q4;unfold vS at hs;simp only[bf] at hs;rcases hs with(hs|hs)|hs
   rotate_left 2
   .unfold RK at hs;split at hs;case h_2=>cases hs
    rename_i z ka kk hlk;split at hs;case h_2=>cases hs
    rename_i s' kk' ka' vk va x s z' hM;simp only[ae,T.beq_true] at hs;obtain⟨⟨⟨e1,e2⟩,e3⟩,e4⟩:=hs;have e2:=nu e2;have e3:=eq_of_beq e3;have e4':=CV e4;subst e1 e2 e3 e4';obtain⟨es0,cl0,rfl,b8⟩:=b7 _ _ _ hlk e4;obtain⟨b',hp',c1,c2,_,c4,c5⟩:=hC _ _ _ hM;rw[b1] at c1;cases c1;cases c5 with
    |me m1 m2 m3=>obtain⟨es0',cl0',n1,n2⟩:=m3;rw[b2] at n1;cases n1;simp only[aj,ez,true_and,O.map.injEq] at b3;obtain⟨rfl,rfl⟩:=b3;exact sO f1 f2 (b8 Z _ _ _ n2 (fun e he=>(m1 e he).1) (c4 _ (aE ..) q.m b4))
   .obtain⟨ao,hs⟩:=rA hs;obtain⟨b',hp',c1,c2,_,c4,_⟩:=hC _ _ _ hs;rw[b1] at c1;cases c1;rw[b2] at c2;cases c2;exact sO f1 f2 (b5 _ (c4 o b3 q.m b4))
   .unfold RJ at hs;split at hs;case h_2=>cases hs
    rename_i off a hcel;obtain⟨g1,g2⟩:=b6 off a hcel;split at hs;case h_2=>cases hs
    rename_i s' ro t l hM;split at hs;case h_2=>cases hs
    rename_i a' ha';obtain⟨b',hp',c1,c2,_,c4,c5⟩:=hC _ _ _ hM;rw[b1] at c1;cases c1;cases c5 with
    |cl cr=>obtain⟨x,x1,x2⟩:=iC hz ha' cr;rw[<- Hf hs g1 x2] at x1;exact sO f1 f2 (g2 _ _ _ _ _ (.inl (c4 _ (aE ..) q.m b4)) x1)
    |ro cr=>obtain⟨x,x1,x2⟩:=iC hz ha' cr;rw[<- Hf hs g1 x2] at x1;exact sO f1 f2 (g2 _ _ _ _ _ (.inr (c4 _ (aE ..) q.m b4)) x1)
end
structure DI (M:TH)(G:Γ)(fr:FR)(n0 len:Nat)(B0:Bs)(defs:List Nat)(i:Nat)(Z:NV)(J:AS)(D:DA)(env:Env)(base:Bs)(eK:List (Nat×Nat×O))(eY:List (Nat×Bs))(reads:List (Nat×Nat×Env×Op×V)):Prop where
 mem:Mem M fr Z J ⟨env,hv base (allM len) eK,defs⟩
 nx:n0+len<=base.h.next
 fn:fr.n<=n0
 fresh:∀ U s ao hp,J.mem.get U=some (s,ao)->Z.objs[s]?=some hp->∀ p,p∈hp->AT n0 i len p.1
 dfs:∀ d,d∈defs->d<n0
 al:∀ x,x∈eK->(x.2.1=n0+x.1/\x.1<i)/\∃ U,(U,x.1)∈D.al
 base:(eY=[]/\base=B0)\/∃ e l,eY=e :: l/\base=e.2
 b0:B0.mask=0
 ef:EfR (Claim M n0 i len Z D.al eK) D.ef eY
 m0:Claim M n0 i len Z D.al eK B0 D.m0
 rd:∀ r,r∈reads->Nh G Z D r
theorem Nh.mono {G:Γ}{Z Z':NV}{D:DA}{r:Nat×Nat×Env×Op×V}(h:Nh G Z D r)(hle:Z.le Z'):Nh G Z' D r:=by
 obtain⟨f,f1,f2,f3⟩:=h;refine⟨f,f1,f2,?_⟩;rcases f3 with f3|⟨q,q1,q2,q3,q4,b,hp,o,b1,b2,b3,b4,b5,b6,b7⟩;·exact .inl f3
 .exact .inr ⟨q,q1,q2,q3,q4,b,hp,o,hle.b b1,hle.o b2,b3,b4,b5,b6.mono hle,b7⟩
section
variable {M:TH}{G:Γ}{fr:FR}{n0 len:Nat}{B0:Bs}{defs:List Nat}{i:Nat}{Z:NV}{J:AS}{D:DA}{env:Env}{base:Bs}{eK:List (Nat×Nat×O)}{eY:List (Nat×Bs)}{reads:List (Nat×Nat×Env×Op×V)}
theorem sP (hD:DI M G fr n0 len B0 defs i Z J D env base eK eY reads){st':St}(hM:Mem M (lB Z J.mem (hv base (allM len) eK)) Z' J' st'):∀ U s ao hp,J'.mem.get U=some (s,ao)->Z'.objs[s]?=some hp->∀ p,p∈hp->AT n0 i len p.1:=fun U s ao hp h1 h2 p hp'=>by
 obtain⟨b,hp2,x1,x2,x3,x4⟩:=hM.hr.at' U s ao h1;rw[h2] at x2;cases x2;rcases(x4 p hp').2.2 with⟨U',s',ao',hp3,y1,y2,p2,y3,e⟩|q;·rw[<- e];exact hD.fresh _ _ _ _ y1 y2 p2 y3
 .have q:(hv base (allM len) eK).next<=p.1:=q
  rw[fS] at q;intro j a b e;have:=hD.nx;omega
theorem DI.move (hD:DI M G fr n0 len B0 defs i Z J D env base eK eY reads){env':Env}(hle:Z.le Z')(hM:Mem M fr Z' J' ⟨env',hv base (allM len) eK,defs⟩)(hf:∀ U s ao hp,J'.mem.get U=some (s,ao)->Z'.objs[s]?=some hp->∀ p,p∈hp->AT n0 i len p.1){i':Nat}(hi:i<=i'):DI M G fr n0 len B0 defs i' Z' J' D env' base eK eY reads:=
 ⟨hM,hD.nx,hD.fn,fun U s ao hp h1 h2 p hp'=>(hf U s ao hp h1 h2 p hp').le hi,hD.dfs,fun x hx=>⟨⟨(hD.al x hx).1.1,bh (hD.al x hx).1.2 hi⟩,(hD.al x hx).2⟩,hD.base,hD.b0,hD.ef.imp fun _ _ c=>c.mono hi hle,hD.m0.mono hi hle,fun r hr=>(hD.rd r hr).mono hle⟩
theorem DI.up (hD:DI M G fr n0 len B0 defs i Z J D env base eK eY reads){J':AS}(u:Up Z J Z J'):DI M G fr n0 len B0 defs i Z J' D env base eK eY reads:=
 hD.move (.refl _) (hD.mem.up u) (fun U s ao hp h1 h2=>hD.fresh U s ao hp (by rw[<- u.same.mem];exact h1) h2) (aF _)
theorem DI.read (hD:DI M G fr n0 len B0 defs i Z J D env base eK eY reads){r:Nat×Nat×Env×Op×V}{q:RD}(h:Nh G Z { D with rd:=q :: D.rd } r):DI M G fr n0 len B0 defs i Z J { D with rd:=q :: D.rd } env base eK eY (r :: reads):=
 ⟨hD.mem,hD.nx,hD.fn,hD.fresh,hD.dfs,hD.al,hD.base,hD.b0,hD.ef,hD.m0,fun r' hr=>by
   rcases aq.1 hr with rfl|hr;·exact h
   .obtain⟨f,f1,f2,f3⟩:=hD.rd r' hr;refine⟨f,f1,f2,?_⟩;rcases f3 with f3|⟨q,q1,q2⟩;·exact .inl f3
    .exact .inr ⟨q,aB _ q1,q2⟩⟩
theorem DI.SC (hD:DI M G fr n0 len B0 defs i Z J D env base eK eY reads){r:Nat×Nat×Env×Op×V}(h:Nh G Z D r):DI M G fr n0 len B0 defs i Z J D env base eK eY (r :: reads):=
 ⟨hD.mem,hD.nx,hD.fn,hD.fresh,hD.dfs,hD.al,hD.base,hD.b0,hD.ef,hD.m0,fun r' hr=>by
   rcases aq.1 hr with rfl|hr;·exact h
   .exact hD.rd r' hr⟩
theorem DI.mask (hD:DI M G fr n0 len B0 defs i Z J D env base eK eY reads)(h:fm (fun e=>!bit e.m i) D.ef=true):bit base.mask i=false:=by
 rcases hD.base with⟨_,e⟩|⟨e,l,h1,h2⟩;·rw[e,hD.b0];exact gQ _
 .have:=hD.ef;rw[h1] at this;generalize hEe:D.ef=Ee at this h;cases this with
  |cons a b c _=>have:=gL h _ (aE ..);rw[h2,<- b];simpa using this
theorem DI.alloc (hD:DI M G fr n0 len B0 defs i Z J D env base eK eY reads)(hi:i<len)(hm:fm (fun e=>!bit e.m i) D.ef=true){ao:AO}{o:O}(hao:∀ (Z':NV) (b:Nat),Z.le Z'->AOR M Z' ao b [(b,o)]):
  ∃ Z',Z.le Z'/\Z'.blks[J.nb]?=some (n0+i)/\DI M G fr n0 len B0 defs (i+1) Z' (J.add ao) { D with al:=(J.nb,i) :: D.al,m0:=D.m0.put J.nb (some (J.no,ao)),ef:=D.ef.map fun x=>{ x with mem:=x.mem.put J.nb (some (J.no,ao)) } } env base ((i,n0+i,o) :: eK) eY reads:=by
 obtain⟨Z',hle,h1,h2,hM⟩:=hD.mem.RC (ao:=ao) (o:=o) (id:=n0+i) (by have:=hD.fn;omega) (by show n0+i<(hv base (allM len) eK).next;rw[fS];have:=hD.nx;omega) (fun U s ao hp a b p hp'=>hD.fresh U s ao hp a b p hp' i (aF _) hi) (fun q=>by have:=hD.dfs _ q;omega) fun Z' hle=>hao Z' _ hle;have hB:=hD.mask hm;have hB0:bit B0.mask i=false:=by rw[hD.b0];exact gQ _
 have hal:=fun x hx=>(hD.al x hx).1;refine⟨Z',hle,h1,?_,hD.nx,hD.fn,fun U s a hp q1 q2 p hp'=>?_,hD.dfs,fun x hx=>?_,hD.base,hD.b0,?_,hD.m0.alloc hi hle (hao Z' _ hle) hD.mem.vr.nb h1 h2 hB0 hal,fun r hr=>?_⟩
 .have:hv base (allM len) ((i,n0+i,o) :: eK)=(hv base (allM len) eK).set (n0+i) (some o):=by
   simp only[hv,CT hi,hB,Bool.not_false,dN]
  rw[this];exact hM
 .simp only[AS.add,T.eL] at q1;split at q1;·cases q1;rw[h2] at q2;cases q2;simp only[aq,aA,or_false] at hp';subst hp';exact fun j a b e=>by simp only at e;omega
  .obtain⟨b,hp2,x1,x2,_⟩:=hD.mem.hr.at' _ _ _ q1;rw[hle.o x2] at q2;cases q2;exact(hD.fresh _ _ _ _ q1 x2 p hp').le (by omega)
 .rcases aq.1 hx with rfl|hx;·exact⟨⟨rfl,by show i<i+1;omega⟩,J.nb,by simp⟩
  .obtain⟨⟨a,b⟩,U,c⟩:=hD.al x hx;exact⟨⟨a,by omega⟩,U,aB _ c⟩
 .refine hD.ef.map (g:=fun m=>m.put J.nb (some (J.no,ao))) fun e v he hem hc=>hc.alloc hi hle (hao Z' _ hle) hD.mem.vr.nb h1 h2 ?_ hal;have:=gL hm e he;rw[<- hem];simpa using this
 .obtain⟨f,f1,f2,f3⟩:=hD.rd r hr;refine⟨f,f1,f2,?_⟩;rcases f3 with f3|⟨q,q1,q2,q3,q4,b,hp,o',b1,b2,b3,b4,b5,b6,b7⟩;·exact .inl f3
  .have hne:q.U≠J.nb:=fun e=>by
    have:=(ai.1 b1).1;rw[hD.mem.vr.nb] at this;omega
   have st:∀ Mm:T (Nat×AO),vS (Mm.put J.nb (some (J.no,ao))) q=vS Mm q:=fun Mm=>by simp only[vS,ij,RJ,RK,T.eL,if_neg hne]
   have ck:∀ Ee:List EF,ckA q (D.m0.put J.nb (some (J.no,ao))) (Ee.map fun x=>{ x with mem:=x.mem.put J.nb (some (J.no,ao)) })=ckA q D.m0 Ee:=fun Ee=>by
    induction Ee with
    |nil=>exact st _
    |cons e l ih=>simp only[aS,ckA,ih,st]
   refine .inr ⟨q,q1,q2,q3,(ck _).trans q4,b,hp,o',hle.b b1,hle.o b2,b3,fun a ha=>?_,b5,b6.mono hle,b7⟩;rcases aq.1 ha with e|ha
   .exact absurd (Prod.mk.inj e).1 hne
   .exact b4 a ha
theorem DI.seen (hD:DI M G fr n0 len B0 defs i Z J D env base eK eY reads)(hl:i<=len)(h:QX i m D=true):chain eY m=true/\hv base m eK=hv base (allM len) eK/\∀ x,x∈eK->bit m x.1=true:=by
 simp only[QX,ae] at h;have hs:∀ x,x∈eK->bit m x.1=true:=fun x hx=>by obtain⟨_,U,c⟩:=hD.al x hx;exact gL h.2 _ c
 refine⟨?_,CU fun x hx=>by rw[hs x hx,CT (by have:=(hD.al x hx).1.2;omega)],hs⟩;have:=hD.ef;have h1:=h.1;generalize D.ef=Ee at this h1;cases this with
 |nil=>rfl
 |cons a b c _=>simp only[chain,<- a];exact h1
theorem DI.eff (hD:DI M G fr n0 len B0 defs i Z J D env base eK eY reads)(hs:∀ x,x∈eK->bit m x.1=true){h':H}(hle:Z.le Z')(hM:Mem M (lB Z J.mem (hv base (allM len) eK)) Z' J' ⟨env,h',[]⟩){K:DA->AS->Bool}(hK:Jd i m D J' K=true):
  ∃ D',K D' J'=true/\D'.fs=D.fs/\DI M G fr n0 len B0 defs (i+1) Z' J' D' env ⟨m,h'⟩ eK ((i,⟨m,h'⟩) :: eY) reads:=by
 unfold Jd at hK;split at hK;case h_2=>cases hK
 rename_i hr;have hfr:=sP hD hM;have hb:=hD.mem.Mu hle hM;have hself:∀ m',hv ⟨m,h'⟩ m' eK=h':=fun m'=>He hs;refine⟨_,hK,rfl,?_,?_,hD.fn,fun U s ao hp h1 h2 p hp'=>(hfr U s ao hp h1 h2 p hp').le (by omega),hD.dfs,fun x hx=>⟨⟨(hD.al x hx).1.1,by have:=(hD.al x hx).1.2;omega⟩,(hD.al x hx).2⟩,.inr ⟨_,_,rfl,rfl⟩,hD.b0,.cons rfl rfl (fun U s ao q=>?_) (hD.ef.imp fun _ _ c=>c.mono (by omega) hle),hD.m0.mono (by omega) hle,fun r hr'=>?_⟩;·rw[hself];exact hb
 .have:(hv base (allM len) eK).next<=h'.next:=hM.hr.le
  rw[fS] at this;exact bF hD.nx this
 .obtain⟨b,hp,x1,x2,x3,x4⟩:=hM.hr.at' U s ao q;obtain⟨o0,r0,e0⟩:=x3.root;refine⟨b,hp,x1,x2,(hfr U s ao hp q x2 (b,o0) (by rw[e0];simp)).le (by omega),fun o ho m' _=>?_,x3⟩;rw[hself];exact(x4 _ ho).1
 .obtain⟨f,f1,f2,f3⟩:=hD.rd r hr';refine⟨f,f1,f2,?_⟩;rcases f3 with f3|⟨q,q1,q2,q3,q4,b,hp,o',b1,b2,b3,b4,b5,b6,b7⟩;·exact .inl f3
  .refine .inr ⟨q,q1,q2,q3,?_,b,hp,o',hle.b b1,hle.o b2,b3,b4,b5,b6.mono hle,b7⟩;have:=gL hr q q1;show((bit m q.i || vS J'.mem q)&&(bit q.m i || ckA q D.m0 D.ef))=true;rw[q4,Bool.or_true,Bool.and_true];exact this
end
end Go.Ae
namespace Go.Ae
open Go.Ev Go.RowKit
variable {m:Nat}{J:AS}{Z:NV}{st:St}
structure TB where
 t:Tgt
 h:H
 v:V
 h':H
open Classical in
noncomputable def Lw:List TB->ic
 |[]=>fun _ _=>none
 |e :: l=>fun t h=>if t=e.t/\h=e.h then some (e.v,e.h') else Lw l t h
theorem EL {P:Program}:∀ {l:List TB},(∀ e,e∈l->iW P e.t e.h e.v e.h')->pT P (Lw l)
 |[],_=>fun _ _ _ _ _ _ _ _ _ h=>nomatch h
 |e :: l,hq=>fun t1 s Y h1 w v1 h1' hT hS hc=>by
  unfold Lw at hc;split at hc;·rename_i q;obtain⟨rfl,rfl⟩:=q;cases hc;exact hq e (by simp) s Y w hT hS
  .exact EL (fun e he=>hq e (aB _ he)) t1 s Y h1 w v1 h1' hT hS hc
theorem EM:∀ {l:List TB},(l.map TB.t).Nodup->∀ e,e∈l->Lw l e.t e.h=some (e.v,e.h')
 |[],_,_,h=>by simp at h
 |e :: l,nd,x,h=>by
  have nd:=bC.1 nd;unfold Lw;rcases aq.1 h with rfl|h
  .rw[if_pos ⟨rfl,rfl⟩]
  .rw[if_neg];·exact EM nd.2 x h
   .intro q;exact nd.1 (by rw[<- q.1];exact aJ.2 ⟨x,h,rfl⟩)
section
variable {P:Program}{G:Γ}{M:TH}{ops:Array Oper}{fr:FR}{n0 len:Nat}{B0:Bs}{defs:List Nat}
def EN (P:Program)(G:Γ)(M:TH)(ops:Array Oper)(fr:FR)(n0 len:Nat)(B0:Bs)(defs:List Nat)(l:List (Oper×Nat))(i:Nat)(Z:NV)(fs:List (Nat×Option Int))(s:DS)(K:AS->Bool):Prop:=
 ∃ (tab:List TB) (s':DS) (Z':NV) (J':AS) (D':DA),(∀ e,e∈tab->iW P e.t e.h e.v e.h'/\∀ p,p∈fs->¬ DK p e.t)/\(tab.map TB.t).Nodup /\
  (∀ call':ic,(∀ e,e∈tab->call' e.t e.h=some (e.v,e.h'))->yL G call' ops n0 l i s=some s')/\Z.le Z' /\
  DI M G fr n0 len B0 defs (i+l.length) Z' J' D' s'.env s'.base s'.eK s'.eY s'.reads/\K J'=true/\(∀ t,t∉sC (l.map Prod.fst)->s'.env.tr.get t=s.env.tr.get t)/\s'.env.sz=s.env.sz
theorem Iw {o:Oper}{l:List (Oper×Nat)}{t:Tmp}(ht:t∉sC (((o,m) :: l).map Prod.fst)):o.dst≠some t/\t∉sC (l.map Prod.fst):=by
 rw[aS] at ht;unfold sC at ht;rw[List.filterMap_cons] at ht;split at ht;·rename_i e;exact⟨by have e:o.dst=none:=e;rw[e];simp,ht⟩
 .rename_i d e;have e:o.dst=some d:=e;simp only[aq,not_or] at ht;exact⟨by rw[e];intro q;cases q;exact ht.1 rfl,ht.2⟩
theorem EN.cons {o:Oper}{m:Nat}{l:List (Oper×Nat)}{i:Nat}{Z Z1:NV}{fs fs1:List (Nat×Option Int)}{env env1:Env}{base base1:Bs}{eK allocs1:List (Nat×Nat×O)}{eY effs1:List (Nat×Bs)}{reads reads1:List (Nat×Nat×Env×Op×V)}{K:AS->Bool}{v:V}{pre:List TB}
  (hpre:∀ e,e∈pre->iW P e.t e.h e.v e.h'/\(∀ p,p∈fs->¬ DK p e.t)/\∃ p,p∈fs1/\DK p e.t)(hnd:(pre.map TB.t).Nodup)(hsub:∀ f,f∈fs->f∈fs1)
  (hst:∀ call':ic,(∀ e,e∈pre->call' e.t e.h=some (e.v,e.h'))->yL G call' ops n0 ((o,m) :: l) i ⟨env,base,eK,eY,reads⟩=yL G call' ops n0 l (i+1) ⟨env1,base1,allocs1,effs1,reads1⟩)
  (hp:env.put o.dst v=some env1)(hle:Z.le Z1)(h:EN P G M ops fr n0 len B0 defs l (i+1) Z1 fs1 ⟨env1,base1,allocs1,effs1,reads1⟩ K):EN P G M ops fr n0 len B0 defs ((o,m) :: l) i Z fs ⟨env,base,eK,eY,reads⟩ K:=by
 obtain⟨tab,s',Z',J',D',t1,t2,t3,t4,t5,t6,t7,t8⟩:=h;refine⟨pre++tab,s',Z',J',D',fun e he=>?_,?_,fun call' hc=>?_,hle.trans t4,?_,t6,fun t ht=>?_,t8.trans (yj hp)⟩
 .rcases aK.1 he with q|q;·exact⟨(hpre e q).1,(hpre e q).2.1⟩
  .exact⟨(t1 e q).1,fun p hp=>(t1 e q).2 p (hsub _ hp)⟩
 .rw[cP,dJ];refine⟨hnd,t2,fun a ha b hb e=>?_⟩;subst e;obtain⟨x,x1,x2⟩:=aJ.1 ha;obtain⟨y,y1,y2⟩:=aJ.1 hb;obtain⟨p,p1,p2⟩:=(hpre x x1).2.2;refine(t1 y y1).2 p p1 ?_;rw[y2,<- x2];exact p2
 .rw[hst call' fun e he=>hc e (aK.2 (.inl he))];exact t3 call' fun e he=>hc e (aK.2 (.inr he))
 .have:i+((o,m) :: l).length=i+1+l.length:=by simp;omega
  rw[this];exact t5
 .obtain⟨a,b⟩:=Iw ht;rw[t7 t b];exact Cw hp a
theorem Iy {Z2:NV}{op:Op}{U bb i s:Nat}{a:A}{v:V}{f:H->Option V}(hM:Mem M fr Z J st)(hU:si J op=some U)(hb:Z.blks[U]?=some bb)(hf:act G st.env.get op=.rd f){lk:Option (V×Bool×List EK)}(hv:AV Z2 a v):DY Z2 ⟨i,m,U,s,ua G op J a,lk⟩ bb f v:=fun off a' e=>by
 change ua G op J a=some (off,a') at e;unfold ua at e;split at e;case h_2=>cases e
 rename_i t x;split at e;case h_2=>cases e
 rename_i E o ty hx hty;split at e;case h_2=>cases e
 rename_i q;cases e;simp only[ae,bw,T.beq_true] at q;refine⟨hv,fun h2 t' n pat tr hh hc=>?_⟩;obtain⟨w,w1,w2⟩:=eS hM hx;unfold si at hU;simp only[hx] at hU;cases hU;cases w2 with
 |@p _ _ _ off' h1 k1=>
  rw[hb] at h1;cases h1;obtain⟨z,_,e⟩:=k1;have hf2:f=fun h=>jT (G.ty t) h (st.env.get x):=by have:act G st.env.get (.load t x)=.rd (fun h=>jT (G.ty t) h (st.env.get x)):=rfl;rw[this] at hf;exact(Ac.rd.inj hf).symm
  rw[hf2];simp only[hty,w1];rw[q.2] at e;have e:off'=o.o:=by rw[e];omega
  subst e;rcases hh with hh|hh
  .simp only[jT,hh,q.1,Ev.partAt];exact hc
  .simp only[jT,hh,q.1,Ev.partAt];exact hc
theorem Lz {op:Op}{U bb i s:Nat}{cel:Option (Nat×A)}{ao:AO}{ob:O}{r0:List (Nat×O)}{v:V}{f:H->Option V}{K:A->AS->Bool}(hk:Dy G op J K=true)(hM:Mem M fr Z J st)(hU:si J op=some U)(hb:Z.blks[U]?=some bb)(hs:J.mem.get U=some (s,ao))(ho:Z.objs[s]?=some ((bb,ob) :: r0))(hf:act G st.env.get op=.rd f)(hv:f st.h=some v):SB ⟨i,m,U,s,cel,Iq G op J⟩ ob bb f v:=fun z ka kk e hks=>by
 change Iq G op J=some (z,ka,kk) at e;unfold Iq at e;split at e;case h_2=>cases e
 rename_i t x k;split at e;case h_2=>cases e
 rename_i ty E hty hx;split at e;case h_2=>cases e
 rename_i kt et s' kk' ka' vk va hd hm;split at e;case h_2=>cases e
 rename_i te hte hc;split at e;case h_2=>cases e
 rename_i z' hz;cases e;unfold si at hU;simp only[hx] at hU;cases hU;rw[hm] at hs;cases hs;obtain⟨b',es,cl,x1,x2,x3,x4⟩:=hM.map hm;rw[hb] at x1;cases x1;rw[ho] at x2;simp only[bW,eB,ez,true_and] at x2;obtain⟨rfl,rfl⟩:=x2;refine⟨es,cl,rfl,fun Z1 es' cl' h2 hEe hkeys hh=>?_⟩;unfold Dy at hk;simp only at hk;obtain⟨a,a1,hk⟩:=eU hk;rw[hx] at a1;cases a1;obtain⟨b,b1,hk⟩:=eU hk;obtain⟨w,w1,w2⟩:=eS hM b1;obtain⟨u,u1,u2⟩:=eS hM hx;cases u2 with
 |@m _ b'' hU''=>rw[hb] at hU'';cases hU'';unfold vO at hk;rw[hty] at hk;simp only[hd,hm,hte,ae] at hk;have hkw:=xW hM.vr.zr hM.vr.z0 hk.1.1.2 w2;have hf2:f=fun h=>iz G (G.ty t) h (st.env.get x) (st.env.get k) false:=(Ac.rd.inj hf).symm;rw[hf2] at hv ⊢;simp only[hty,u1,w1] at hv ⊢;exact DF hd hte hc hz (hkw.any hks) hEe (fun e he=>(x4 e he).1.any hks) hkeys x3 hh hv
theorem jF {call:qG}(hcall:qn P M call){yld:Ip}(hyld:DJ P M yld):∀ (l:List (Oper×Nat)) (i:Nat) (D:DA) (J:AS) (K:AS->Bool),mK G call yld ops l i D J K=true->i+l.length=len->∀ {Z:NV} {env:Env} {base:Bs} {eK:List (Nat×Nat×O)} {eY:List (Nat×Bs)} {reads:List (Nat×Nat×Env×Op×V)},DI M G fr n0 len B0 defs i Z J D env base eK eY reads ->
  EN P G M ops fr n0 len B0 defs l i Z D.fs ⟨env,base,eK,eY,reads⟩ K
 |[],i,D,J,K,h,hl,Z,env,base,eK,eY,reads,hD=>⟨[],_,Z,J,D,by simp,by simp,fun _ _=>rfl,.refl _,hD,h,fun _ _=>rfl,rfl⟩
 |(o,m) :: l,i,D,J,K,h,hl,Z,env,base,eK,eY,reads,hD0=>by
  have hl':i+1+l.length=len:=by simp at hl;omega
  have hi:i<len:=by omega
  simp only[mK] at h;obtain⟨b,J1,w1,u1,k1⟩:=Cv h hD0.mem;have hD:=hD0.up u1;have w1:gz ops env o=some b:=w1;cases b with
  |false=>simp only at k1;obtain⟨env1,J2,p1,p2,p3,p4⟩:=hD.mem.Mt (v:=.tuple []) (.tp .nil) k1;have p1:env.put o.dst (.tuple [])=some env1:=p1;refine EN.cons (pre:=[]) (by simp) (by simp) (fun _ q=>q) (fun call' _=>?_) p1 (.refl _) (jF hcall hyld l (i+1) D J2 K p3 hl' (hD.move (.refl _) p2 (fun U s ao hp h1 h2=>hD.fresh U s ao hp (by rw[<- p4];exact h1) h2) (eI i)));simp only[yL,w1,p1];try rfl
  |true=>
   simp only at k1;split at k1
   .
    rename_i hk;have hact:=mD k1 hD.mem;have hkind:=xN (e:=env.get) k1;rw[hk] at hkind;obtain⟨x,hx⟩:=hkind;unfold pB at hact;have hx':act G (St.mk env (hv base (allM len) eK) defs).env.get o.op=.val x:=hx;rw[hx'] at hact;obtain⟨v,rfl,Z2,J2,a,u2,v2,k2⟩:=hact;have hD2:=hD.mem.up u2;obtain⟨env1,J3,p1,p2,p3,p4⟩:=hD2.Mt v2 k2;have p1:env.put o.dst v=some env1:=p1;refine EN.cons (pre:=[]) (by simp) (by simp) (fun _ q=>q) (fun call' _=>?_) p1 u2.le (jF hcall hyld l (i+1) D J3 K p3 hl' (hD.move u2.le p2 (fun U s ao hp h1 h2=>hD.fresh U s ao hp (by rw[<- u2.same.mem,<- p4];exact h1) (by rw[<- u2.objs];exact h2)) (eI i)));simp only[yL,w1,wN,hx,p1];try rfl
   .
    rename_i hk;have hact:=mD k1 hD.mem.OZ;have hkind:=xN (e:=env.get) k1;rw[hk] at hkind;obtain⟨f,hf⟩:=hkind;unfold pB at hact;have hf':act G (St.mk env (hv base (allM len) eK) []).env.get o.op=.rd f:=hf;rw[hf'] at hact;have hrb:si J1 o.op=none:=by
     unfold si;split;·rename_i e;rw[e] at hk;simp[lu] at hk
     .rename_i e;rw[e] at hk;simp[lu] at hk
     .rfl
    rw[hrb] at hact;obtain⟨v,f1,Z2,J2,a,l2,m2,v2,k2⟩:=hact;simp only at k2;have f1:∀ h2,f h2=some v:=fun h2=>f1 h2 fun _ _ q=>nomatch q;split at k2;case h_2=>cases k2
    rename_i hb;obtain⟨env1,J3,p1,p2,p3,p4⟩:=m2.Mt v2 k2;have p1:env.put o.dst v=some env1:=p1;have hm3:=hD.mem.Mu l2 p2;have hD3:=hD.move l2 hm3 (sP hD p2) (eI i);have hD4:=hD3.SC (r:=(i,m,env,o.op,v)) ⟨f,hf,uJ hb v2 (by omega),.inl f1⟩;refine EN.cons (pre:=[]) (by simp) (by simp) (fun _ q=>q) (fun call' _=>?_) p1 l2 (jF hcall hyld l (i+1) D J3 K p3 hl' hD4);simp only[yL,w1,wN,hf,f1,p1];try rfl
   .
    rename_i hk;obtain⟨U,hU,k1⟩:=eU k1;obtain⟨⟨s,ao⟩,hs,k1⟩:=eU k1;split at k1;case h_2=>cases k1
    rename_i hc;simp only[ae] at hc;obtain⟨c1,c2⟩:=hc;have hact:=mD k1 hD.mem.OZ;have hkind:=xN (e:=env.get) k1;rw[hk] at hkind;obtain⟨f,hf⟩:=hkind;unfold pB at hact;have hf':act G (St.mk env (hv base (allM len) eK) []).env.get o.op=.rd f:=hf;rw[hf',hU] at hact;obtain⟨v,f1,Z2,J2,a,l2,m2,v2,k2⟩:=hact;simp only at k2;obtain⟨bb,hp,x1,x2,x3,x4⟩:=hD.mem.hr.at' _ _ _ hs;obtain⟨ob,r0,rfl⟩:=x3.root;have hcur:(hv base (allM len) eK).tr.get bb=some ob:=(x4 (bb,ob) (by simp)).1;have f2:∀ h2:H,h2.tr.get bb=some ob->f h2=some v:=fun h2 hh=>f1 h2 fun E b' e e'=>by cases e;rw[x1] at e';cases e';exact hh.trans hcur.symm
    have hsee:∀ a,(U,a)∈D.al->bit m a=true:=fun a ha=>by
     have:=gL c1 _ ha;simp only[bf,bw] at this;rcases this with q|q
     .have:Nat.beq U U=true:=(T.beq_true).2 rfl;rw[this] at q;cases q
     .exact q
    have claim:∀ B Mm,Claim M n0 i len Z D.al eK B Mm->ij Mm U s=true->(hv B m eK).tr.get bb=some ob:=fun B Mm hC hst=>by obtain⟨ao',hst⟩:=rA hst;obtain⟨b',hp',y1,y2,_,y4,_⟩:=hC _ _ _ hst;rw[x1] at y1;cases y1;rw[x2] at y2;cases y2;exact y4 ob (by simp) m hsee
    have hbase:(hv base m eK).tr.get bb=some ob:=by
     have he:=hD.ef;unfold KE at c2;rcases hD.base with⟨e1,e2⟩|⟨e,l,e1,e2⟩
     .rw[e2];rw[e1] at he;generalize D.ef=Ee at he c2;cases he;exact claim _ _ hD.m0 c2
     .rw[e2];rw[e1] at he;generalize D.ef=Ee at he c2;cases he with
      |cons _ _ q _=>exact claim _ _ q c2
    split at k2;case h_2=>cases k2
    rename_i hb;simp only[ae] at hb;obtain⟨hb,c3⟩:=hb;obtain⟨env1,J3,p1,p2,p3,p4⟩:=m2.Mt v2 k2;have p1:env.put o.dst v=some env1:=p1;have hcel:DY Z2 ⟨i,m,U,s,ua G o.op J1 a,Iq G o.op J1⟩ bb f v:=Iy hD.mem hU x1 hf v2;have hlk:SB ⟨i,m,U,s,ua G o.op J1 a,Iq G o.op J1⟩ ob bb f v:=Lz k1 hD.mem hU x1 hs x2 hf (f2 _ hcur);have hm3:=hD.mem.Mu l2 p2;have hD3:=hD.move l2 hm3 (sP hD p2) (eI i);have hD4:=hD3.read (q:=⟨i,m,U,s,ua G o.op J1 a,Iq G o.op J1⟩) (r:=(i,m,env,o.op,v)) ⟨f,hf,uJ hb v2 (by omega),.inr ⟨⟨i,m,U,s,ua G o.op J1 a,Iq G o.op J1⟩,by simp,rfl,rfl,c3,bb,_,ob,l2.b x1,l2.o x2,by simp,hsee,f2,hcel,hlk⟩⟩;refine EN.cons (pre:=[]) (by simp) (by simp) (fun _ q=>q) (fun call' _=>?_) p1 l2 (jF hcall hyld l (i+1) { D with rd:=⟨i,m,U,s,ua G o.op J1 a,Iq G o.op J1⟩ :: D.rd } J3 K p3 hl' hD4);simp only[yL,w1,wN,hf,f2 _ hbase,p1];try rfl
   .
    rename_i hk;split at k1;case h_2=>cases k1
    rename_i hm;have hact:=mD k1 hD.mem;have hkind:=xN (e:=env.get) k1;rw[hk] at hkind;obtain⟨f,hf⟩:=hkind;unfold pB at hact;have hf':act G (St.mk env (hv base (allM len) eK) defs).env.get o.op=.al f:=hf;rw[hf'] at hact;obtain⟨ao,a,ob,vf,q1,q2,q3,q4⟩:=hact;obtain⟨e,he,q1⟩:=eU q1;have he:(J1.mem.put J1.nb (some (J1.no,ao))).get J1.nb=some e:=he;rw[T.eL,if_pos rfl] at he;cases he;obtain⟨Z2,l2,hbl,hD2⟩:=hD.alloc hi hm (ao:=ao) (o:=ob) q4;obtain⟨env1,J3,p1,p2,p3,p4⟩:=hD2.mem.Mt (q3 Z2 (n0+i) l2 hbl) q1;have p1:env.put o.dst (vf (n0+i))=some env1:=p1;have hD3:=hD2.move (.refl _) p2 (fun U s ao hp h1 h2=>hD2.fresh U s ao hp (by rw[<- p4];exact h1) h2) (aF _);refine EN.cons (pre:=[]) (by simp) (by simp) (fun _ q=>q) (fun call' _=>?_) p1 l2 (jF hcall hyld l (i+1) _ J3 K p3 hl' hD3);have q2':f (Nat.add n0 i)=some (ob,vf (n0+i)):=q2 _;simp only[yL,w1,wN,hf,q2',p1];try rfl
   .
    rename_i hk;split at k1;case h_2=>cases k1
    rename_i hm;have hact:=mD k1 hD.mem.OZ;have hkind:=xN (e:=env.get) k1;rw[hk] at hkind;obtain⟨f,hf⟩:=hkind;unfold pB at hact;have hf':act G (St.mk env (hv base (allM len) eK) []).env.get o.op=.ef f:=hf;rw[hf'] at hact;obtain⟨v,h',f1,Z2,J2,a,l2,m2,v2,k2⟩:=hact;obtain⟨s1,s2,s3⟩:=hD.seen (dx hi) hm;obtain⟨D',kD,kf,hD2⟩:=hD.eff s3 l2 m2 k2;obtain⟨env1,J3,p1,p2,p3,p4⟩:=hD2.mem.Mt v2 kD;have p1:env.put o.dst v=some env1:=p1;have hD3:=hD2.move (.refl _) p2 (fun U s ao hp h1 h2=>hD2.fresh U s ao hp (by rw[<- p4];exact h1) h2) (aF _);refine EN.cons (pre:=[]) (by simp) (by simp) (fun _ q=>q) (fun call' _=>?_) p1 l2 (kf▸jF hcall hyld l (i+1) D' J3 K p3 hl' hD3);have f1:f (hv base (allM len) eK)=some (v,h'):=f1;simp only[yL,w1,wN,hf,s1,s2,f1,p1];try rfl
   .
    split at k1;case h_2=>cases k1
    rename_i c hop;split at k1;case h_2=>cases k1
    rename_i hm;simp only[ae,bw] at hm;obtain⟨hm,hnf⟩:=hm;have hsome:∃ t,Dz G J1 c=some t:=by
     cases q:Dz G J1 c with
     |some t=>exact⟨t,rfl⟩
     |none=>rw[q] at k1;cases k1
    obtain⟨t0,ht0⟩:=hsome;obtain⟨tg,v,h',hact,cq,Z2,J2,a,l2,m2,v2,k2⟩:=Ga hcall hyld k1 hD.mem.OZ;have hkey:=Jm hD.mem.OZ hact ht0;have hact:act G env.get (.call c)=.call (some tg):=hact;obtain⟨s1,s2,s3⟩:=hD.seen (dx hi) hm;obtain⟨D',kD,kf,hD2⟩:=hD.eff s3 l2 m2 k2;obtain⟨env1,J3,p1,p2,p3,p4⟩:=hD2.mem.Mt v2 kD;have p1:env.put o.dst v=some env1:=p1;have hD3:=hD2.move (.refl _) p2 (fun U s ao hp h1 h2=>hD2.fresh U s ao hp (by rw[<- p4];exact h1) h2) (aF _);have hD4:DI M G fr n0 len B0 defs (i+1) Z2 J3 { D' with fs:=FJ (Dz G J1 c) :: D'.fs } env1 ⟨m,h'⟩ eK ((i,⟨m,h'⟩) :: eY) reads:=
     ⟨hD3.mem,hD3.nx,hD3.fn,hD3.fresh,hD3.dfs,hD3.al,hD3.base,hD3.b0,hD3.ef,hD3.m0,hD3.rd⟩
    refine EN.cons (pre:=[⟨tg,hv base (allM len) eK,v,h'⟩]) (fun e he=>?_) (by simp) (fun x hx=>?_) (fun call' hcl=>?_) p1 l2 (jF hcall hyld l (i+1) { D' with fs:=FJ (Dz G J1 c) :: D'.fs } J3 K p3 hl' hD4);·simp only[aq,aA,or_false] at he;subst he;exact⟨cq,Gc hkey hnf,_,aE ..,hkey⟩
    .rw[kf];exact aB _ hx
    .have hcl:=hcl _ (aE ..);have hcl:call' tg (hv base (allM len) eK)=some (v,h'):=hcl;have hA:act G env.get o.op=.call (some tg):=by rw[hop];exact hact
     simp only[yL,w1,wN,hA,s1,s2,hcl,p1];try rfl
theorem BC {call:qG}(hcall:qn P M call){yld:Ip}(hyld:DJ P M yld){K:AS->Bool}(h:mK G call yld ops (nW ops.toList 0 .leaf) 0 ⟨[],[],[],J.mem,[]⟩ J K=true)(hM:Mem M fr Z J st):
  ∃ (call':ic) (env':Env) (h':H),pT P call'/\Qg G call' ops st.env st.h=some (env',h')/\(∀ t,t∉sC ops.toList->env'.tr.get t=st.env.tr.get t)/\env'.sz=st.env.sz/\∃ Z' J',Z.le Z'/\Mem M fr Z' J' ⟨env',h',st.defs⟩/\K J'=true:=by
 have hlen:(nW ops.toList 0 .leaf).length=ops.toList.length:=rD ..;have hD:DI M G fr st.h.next ops.toList.length ⟨0,⟨st.h.tr,Nat.add st.h.next ops.toList.length⟩⟩ st.defs 0 Z J ⟨[],[],[],J.mem,[]⟩ st.env ⟨0,⟨st.h.tr,Nat.add st.h.next ops.toList.length⟩⟩ [] [] []:=by
  refine⟨⟨hM.vr,hM.sz,hM.er,⟨fun U s ao q=>?_,hM.hr.sep,hM.hr.frame,bF hM.hr.le (cY _ _),hM.hr.gl⟩,hM.df.nd,fun d hd=>?_,hM.df.sep⟩,aF _,hM.hr.le,fun U s ao hp h1 h2 p hp' j a b e=>?_,fun d hd=>(hM.df.at' d hd).2.1,by simp,.inl ⟨rfl,rfl⟩,rfl,.nil,fun U s ao q=>?_,by simp⟩;·obtain⟨b,hp,x1,x2,x3,x4⟩:=hM.hr.at' U s ao q;exact⟨b,hp,x1,x2,x3,fun p hp'=>let ⟨y1,y2,y3⟩:=x4 p hp';⟨y1,bh y2 (cY _ _),y3⟩⟩
  .obtain⟨d1,d2,d3⟩:=hM.df.at' d hd;exact⟨d1,bh d2 (cY _ _),d3⟩
  .obtain⟨b,hp2,x1,x2,x3,x4⟩:=hM.hr.at' U s ao h1;rw[h2] at x2;cases x2;have:=(x4 p hp').2.1;omega
  .obtain⟨b,hp,x1,x2,x3,x4⟩:=hM.hr.at' U s ao q;obtain⟨o0,r0,rfl⟩:=x3.root;refine⟨b,_,x1,x2,fun j _ _ e=>?_,fun o ho m _=>(x4 _ ho).1,x3⟩;have:=(x4 (b,o0) (by simp)).2.1;simp only at this;omega
 obtain⟨tab,s',Z',J',D',t1,t2,t3,t4,t5,t6,t7,t8⟩:=jF hcall hyld _ 0 _ J K h (by rw[hlen];omega) hD;have hrun:=t3 (Lw tab) fun e he=>EM t2 e he;refine⟨Lw tab,s'.env,hv s'.base (allM ops.toList.length) s'.eK,EL fun e he=>(t1 e he).1,?_,fun t ht=>?_,t8,Z',J',t4,t5.mem,t6⟩;·unfold Qg;rw[hrun];simp only;rw[CX t5.mem.vr.z0 t5.ef t5.m0 t5.rd];rfl
 .have hmap:∀ (l:List Oper) (i:Nat) (tab:T Nat),(nW l i tab).map Prod.fst=l:=fun l=>by
   induction l with
   |nil=>intro _ _;rfl
   |cons o l ih=>intro i tab;simp only[nW,aS,ih]
  exact t7 t (by rw[hmap];exact ht)
end
end Go.Ae
namespace Go.Ae
open Go.Ev Go.RowKit
variable {X:TA}{J:AS}{Z:NV}
theorem yf {α:Type}:∀ {l:List Tmp} {t:T α} {x:Nat} {a:α},(Mx l t).get x=some a->x∉l/\t.get x=some a
 |[],t,x,a,h=>⟨by simp,h⟩
 |y :: l,t,x,a,h=>by
  obtain⟨h1,h2⟩:=yf (l:=l) h;rw[T.eL] at h2;split at h2;·cases h2
  .rename_i e;exact⟨by simp only[aq,not_or];exact⟨e,h1⟩,h2⟩
theorem yg:∀ {l:List (Tmp×A)} {t:T A} {x:Nat} {a:A},(lJ l t).get x=some a->(x,a)∈l\/t.get x=some a
 |[],t,x,a,h=>.inr h
 |p :: l,t,x,a,h=>by
  rcases yg (l:=l) h with q|q;·exact .inl (aB _ q)
  .rw[T.eL] at q;split at q;·rename_i e;cases q;subst e;exact .inl (by simp)
   .exact .inr q
theorem sB:∀ {l:List Nat} {t:T (Nat×AO)} {x:Nat} {p:Nat×AO},(tZ l t).get x=some p->x∉l/\t.get x=some p
 |[],t,x,a,h=>⟨by simp,h⟩
 |y :: l,t,x,a,h=>by
  obtain⟨h1,h2⟩:=sB (l:=l) h;rw[T.eL] at h2;split at h2;·cases h2
  .rename_i e;exact⟨by simp only[aq,not_or];exact⟨e,h1⟩,h2⟩
theorem Ct:∀ {l:List Nat} {t:T (Nat×AO)} {x:Nat} {p:Nat×AO},x∉l->t.get x=some p->(tZ l t).get x=some p
 |[],t,x,a,_,h=>h
 |y :: l,t,x,a,hx,h=>by simp only[aq,not_or] at hx;refine Ct (l:=l) hx.2 ?_;rw[T.eL,if_neg hx.1];exact h
theorem gK:∀ {l:List (Nat×AO)} {n:Nat} {t:T (Nat×AO)} {x s:Nat} {ao:AO},(gq n l t).get x=some (s,ao)->(∃ i,l[i]?=some (x,ao)/\s=n+i)\/((∀ q,q∈l->q.1≠x)/\t.get x=some (s,ao))
 |[],n,t,x,s,ao,h=>.inr ⟨fun q hq=>by simp at hq,h⟩
 |p :: l,n,t,x,s,ao,h=>by
  simp only[gq,T.eL] at h;split at h;·rename_i e;cases h;subst e;exact .inl ⟨0,rfl,rfl⟩
  .rename_i e;rcases gK h with⟨i,a,b⟩|⟨a,b⟩
   .exact .inl ⟨i+1,by simpa using a,by rw[b];show Nat.succ n+i=_;omega⟩
   .refine .inr ⟨fun q hq=>?_,b⟩;rcases aq.1 hq with rfl|hq
    .exact fun e'=>e e'.symm
    .exact a q hq
theorem kg {Z:NV}:∀ {l:List (LE×LE)} {z:ZN},ZR Z z->(∀ p,p∈l->Holds Z p)->ZR Z (ie l z)
 |[],z,h,_=>h
 |p :: l,z,h,hl=>by obtain⟨a,b,x,y,w⟩:=hl p (by simp);show ZR Z (ie l (z.add p.1 p.2));exact kg (h.add x y w) fun q hq=>hl q (by simp[hq])
theorem Ar {M:TH}{fr:FR}{nx ns nb no sz:Nat}{tm0:T A}{xU:T (Nat×AO)}{z0:ZN}{p:PT}{st:St}{Z0 Z' Zh:NV}{hps:List (List (Nat×O))}
  (hM:Mem M fr Z' J st)(m:Met M X p J st Z0 Z' Zh hps)(h1:X.nx=nx)(h2:X.ns=ns)(h3:X.nb=nb)(hno:Z0.objs.length=no)(h0:Z0.ints[0]?=some 0)(hz:ZR Z0 z0)
  (ht:∀ t a,tm0.get t=some a->∃ v,st.env.tr.get t=some v/\AV Z0 a v)
  (hk:∀ U s ao,xU.get U=some (s,ao)->(∀ q,q∈p.mem->q.1≠U)->∃ ao' b hp,J.mem.get U=some (s,ao')/\U∉ko X p/\Z0.blks[U]?=some b/\Z0.objs[s]?=some hp/\Z'.objs[s]?=some hp/\AOR M Z0 ao b hp)
  (hsz:st.env.sz=sz):Mem M fr Zh (vQ nx ns nb no sz tm0 xU z0 p) st:=by
 have hobj:∀ (i:Nat) (hp:List (Nat×O)),hps[i]?=some hp->Zh.objs[no+i]?=some hp:=fun i hp h=>by rw[m.lo,aG,if_neg (by omega)];rw[show no+i - Z0.objs.length=i by omega];exact h
 have ent:∀ U s ao,(vQ nx ns nb no sz tm0 xU z0 p).mem.get U=some (s,ao)->∃ U' s' act b hp,J.mem.get U'=some (s',act)/\Z'.objs[s']?=some hp/\Zh.blks[U]?=some b/\Zh.objs[s]?=some hp/\AOR M Zh ao b hp/\((∃ i,p.mem[i]?=some (U,ao)/\s=no+i/\(ko X p)[i]?=some U')\/((∀ q,q∈p.mem->q.1≠U)/\U'=U/\U∉ko X p)):=fun U s ao h=>by
  rcases gK h with⟨i,a,b⟩|⟨a,b⟩;·obtain⟨U',s',act,bb,hp,q1,q2,q3,q4,q5,q6,q7⟩:=m.mem i U ao a;exact⟨U',s',act,bb,hp,q3,q5,q4,by rw[b];exact hobj i hp q6,q7,.inl ⟨i,a,b,q2⟩⟩
  .obtain⟨ao',bb,hp,q1,q2,q3,q4,q5,q6⟩:=hk U s ao b a;exact⟨U,s,ao',bb,hp,q1,q5,m.le.b q3,m.le.o q4,q6.mono m.le,.inr ⟨a,rfl,q2⟩⟩
 refine⟨⟨?_,?_,?_,?_,m.le.i h0,kg (hz.mono m.le) m.fs⟩,hsz,fun t a h=>?_,⟨fun U s ao h=>?_,fun U s ao E s' ao' h h' hne hp hp' e e'=>?_,hM.hr.frame,hM.hr.le,hM.hr.gl⟩,hM.df.nd,hM.df.at',fun d hd U s ao hp h e=>?_⟩;·rw[m.li,h1];rfl
 .rw[m.ls,h2];rfl
 .rw[m.lb,h3];rfl
 .rw[m.lo,bt,hno,m.lh];rfl
 .rcases yg h with q|q;·exact m.tm _ q
  .obtain⟨v,v1,v2⟩:=ht t a q;exact⟨v,v1,v2.mono m.le⟩
 .obtain⟨U',s',act,b,hp,q1,q2,q3,q4,q5,_⟩:=ent U s ao h;obtain⟨_,hp2,_,x2,_,x4⟩:=hM.hr.at' _ _ _ q1;rw[q2] at x2;cases x2;exact⟨b,hp,q3,q4,q5,x4⟩
 .obtain⟨U1,s1,act1,b1,hp1,q1,q2,q3,q4,q5,q6⟩:=ent _ _ _ h;obtain⟨U2,s2,act2,b2,hp2,r1,r2,r3,r4,r5,r6⟩:=ent _ _ _ h';rw[q4] at e;cases e;rw[r4] at e';cases e';refine hM.hr.sep _ _ _ _ _ _ q1 r1 ?_ _ _ q2 r2;rcases q6 with⟨i,i1,i2,i3⟩|⟨i1,rfl,i3⟩
  .rcases r6 with⟨j,j1,j2,j3⟩|⟨j1,rfl,j3⟩;·intro e;subst e;have hi:=(ai.1 i3).1;have hj:=(ai.1 j3).1;have:i=j:=(List.getElem?_inj hi m.nd).1 (i3.trans j3.symm);subst this;rw[i1] at j1;cases j1;exact hne rfl
   .intro e;subst e;exact j3 (aC i3)
  .rcases r6 with⟨j,j1,j2,j3⟩|⟨j1,rfl,j3⟩;·intro e;subst e;exact i3 (aC j3)
   .exact hne
 .obtain⟨U',s',act,b,hp2,q1,q2,q3,q4,q5,_⟩:=ent U s ao h;rw[q4] at e;cases e;exact hM.df.sep d hd _ _ _ _ q1 q2
theorem Cu {xU:T (Nat×AO)}{J:AS}{bl:List Nat}:∀ {n:Nat},xP xU J bl n=true->∀ U s ao,U<n->xU.get U=some (s,ao)->U∉bl/\∃ ao',J.mem.get U=some (s,ao')
 |0,_,U,s,ao,h,_=>by omega
 |n+1,h,U,s,ao,hlt,hg=>by
  simp only[xP] at h;by_cases e:U=n
  .subst e;rw[hg] at h;simp only at h;split at h
   .rename_i s' ao' hs;split at h;·rename_i q;simp only[ae,T.beq_true,bw] at q;rw[q.1];exact⟨G6 q.2,ao',hs⟩
    .cases h
   .cases h
  .refine Cu (n:=n) ?_ U s ao (by omega) hg;split at h;·exact h
   .split at h
    .split at h;·exact h
     .cases h
    .cases h
def Jl (l:List Tmp)(st st':St):Prop:=∀ t,t∉l->st'.env.tr.get t=st.env.tr.get t
theorem F6 {M:TH}{fr:FR}{J0:AS}{st0 st:St}{Z0:NV}{la:LA}{b:Code}(h0:Mem M fr Z0 J0 st0)(h:laid J0 la J=some X)(hM:Mem M fr Z J st)(hle:Z0.le Z)(hk:Jl (asg b) st0 st)(hsz:st.env.sz=st0.env.sz):
  ∃ Zh,Z0.le Zh/\TR X Zh Z/\Mem M fr Zh (FI J0 b la) st/\((∃ a,Num Zh la.hi a)/\∃ a,Num Zh la.lo a)/\(∃ a,Num Zh la.hi2 a)/\∃ a,Num Zh la.lo2 a:=by
 unfold laid at h;simp only at h;split at h;case h_2=>cases h
 rename_i q;cases h;simp only[ae,T.beq_true] at q;obtain⟨⟨⟨⟨⟨⟨e1,e2⟩,e3⟩,e4⟩,e5⟩,e6⟩,e7⟩:=q;obtain⟨Zh,hps,m⟩:=G8 e6 hM hle h0.vr.z0 (by rw[e1];exact h0.vr.ni) (by rw[e2];exact h0.vr.ns) (by rw[e3];exact h0.vr.nb);have num:∀ e:LE,Nat.blt e.1 (Nat.add J0.nx la.p.ni)=true->∃ a,Num Zh e a:=fun e he=>by have he:e.1<J0.nx+la.p.ni:=az he;exact⟨_,_,ah (l:=Zh.ints) (i:=e.1) (by rw[m.li,e1];exact he),rfl⟩
 refine⟨Zh,m.le,m.tr,Mem.og (Ar hM m e1 e2 e3 h0.vr.no h0.vr.z0 h0.vr.zr (fun t a ha=>?_) (fun U s ao hb hne=>?_) (by rw[hsz];exact h0.sz)),⟨num _ e4.1,num _ e5.1⟩,num _ e4.2,num _ e5.2⟩;·obtain⟨q1,q2⟩:=yf ha;obtain⟨v,v1,v2⟩:=h0.er _ _ q2;exact⟨v,by rw[hk t q1];exact v1,v2⟩
 .obtain⟨q1,q2⟩:=sB hb;obtain⟨b',hp,x1,x2,x3,x4⟩:=h0.hr.at' _ _ _ q2;have hlt:U<J0.nb:=by
   have:=(ai.1 x1).1;rw[h0.vr.nb] at this;exact this
  have hm:(KC J0 la).get U=some (s,ao):=by refine Ct (fun hx=>?_) hb;obtain⟨q,hq,rfl⟩:=aJ.1 hx;exact hne q hq rfl
  obtain⟨y1,ao',y2⟩:=Cu e7 U s ao hlt hm;exact⟨ao',b',hp,y2,y1,x1,x2,hle.o x2,x3⟩
theorem F7 {hi lo h l:LE}(k:I8 J.z hi lo h l=true)(hz:ZR Z J.z)(h0:Z.ints[0]?=some 0){a b c d:Int}(ha:Num Z hi a)(hb:Num Z lo b)(c':Num Z h c)(d':Num Z l d):(c - d).toNat<(a - b).toNat:=by
 simp only[I8,ae,bf] at k;have k3:=eV hz h0 k.2 (hb.plus 1) ha;rcases k.1 with⟨g1,g2⟩|⟨g1,g2⟩
 .have k1:=eV hz h0 g1 c' ha;have k2:=eV hz h0 g2 (hb.plus 1) d';omega
 .have k1:=eV hz h0 g1 (c'.plus 1) ha;have k2:=eV hz h0 g2 hb d';omega
theorem MK {la q:LA}{Zh':NV}(h:My la q X J=true)(hz:ZR Z J.z)(h0:Z.ints[0]?=some 0)(tr:TR X Zh' Z){a b c d a2 b2 c2 d2:Int}(ha:Num Z la.hi a)(hb:Num Z la.lo b)(hc:Num Zh' q.hi c)(hd:Num Zh' q.lo d)
  (ha2:Num Z la.hi2 a2)(hb2:Num Z la.lo2 b2)(hc2:Num Zh' q.hi2 c2)(hd2:Num Zh' q.lo2 d2):(c - d).toNat<(a - b).toNat\/((c - d).toNat<=(a - b).toNat/\(c2 - d2).toNat<(a2 - b2).toNat):=by
 unfold My at h;split at h;case h_2=>cases h
 rename_i hh ll h2 l2 e1 e2 e3 e4;simp only[ae,bf] at h;have c':=(tr.le e1 _).1 hc;have d':=(tr.le e2 _).1 hd;rcases h with h|⟨⟨g1,g2⟩,h⟩
 .exact .inl (F7 h hz h0 ha hb c' d')
 .have k1:=eV hz h0 g1 c' ha;have k2:=eV hz h0 g2 hb d';exact .inr ⟨by omega,F7 h hz h0 ha2 hb2 ((tr.le e3 _).1 hc2) ((tr.le e4 _).1 hd2)⟩
theorem oq {Z:NV}:∀ {l:List A} {vs:List V} {i:Nat} {t:T A} {u:T V},AVs Z l vs->ER Z t u->ER Z (xQ i l t) (fT i vs u)
 |[],_,i,t,u,.nil,h=>h
 |a :: l,_,i,t,u,.cons (v:=v) q r,h=>by
  refine oq (l:=l) r fun x b hx=>?_;rw[T.eL] at hx;rw[T.eL];split at hx;·rename_i e;cases hx;rw[if_pos e];exact⟨v,rfl,q⟩
  .rename_i e;rw[if_neg e];exact h x b hx
theorem ER.nil {u:T V}:ER Z .leaf u:=fun t a h=>by rw[T.eR] at h;cases h
end Go.Ae
namespace Go.Ae
open Go.Ev Go.RowKit
noncomputable section
def Fc (cn:CN)(o:OUT):AS:=vQ (Nat.add 1 cn.ni) cn.ns cn.nb cn.mem.length 1 .leaf .leaf ⟨.leaf,.leaf,[]⟩ (O5 o)
end
def fP (P:Program)(M:TH)(f:FuncId)(cn:CN):Prop:=∀ (Z:NV) (vs:List V) (h:H) (n:Nat),vs.length=cn.args.length->Mem M (lB Z (fA cn n).mem h) Z (fA cn n) ⟨⟨n,fT 0 vs .leaf⟩,h,[]⟩ ->
 ∃ v h',iW P (.fn f vs) h v h'/\∃ o,o∈cn.outs/\∃ Zo,Z.le Zo/\Mem M (lB Z (fA cn n).mem h) Zo (Fc cn o) ⟨⟨1,T.leaf.put 0 (some v)⟩,h',[]⟩/\(∀ g,g∈o.fs->Holds Zo g)/\AV Zo o.res v
def Ku (R:List V->H->V->H->Prop)(M:TH)(cn:CN):Prop:=∀ (Z:NV) (vs:List V) (h:H) (n:Nat),vs.length=cn.args.length->(∀ g,g∈cn.fs->Holds Z g)->Mem M (lB Z (fA cn n).mem h) Z (fA cn n) ⟨⟨n,fT 0 vs .leaf⟩,h,[]⟩ ->
 ∃ v h',R vs h v h'/\∃ o,o∈cn.outs/\∃ Zo,Z.le Zo/\Mem M (lB Z (fA cn n).mem h) Zo (Fc cn o) ⟨⟨1,T.leaf.put 0 (some v)⟩,h',[]⟩/\(∀ g,g∈o.fs->Holds Zo g)/\AV Zo o.res v
theorem AVs.len {Z:NV}:∀ {a:List A} {v:List V},AVs Z a v->v.length=a.length
 |_,_,.nil=>rfl
 |_,_,.cons _ r=>by simp[AVs.len r]
theorem qU {α:Type}(f:Nat->α):∀ (n k:Nat),(news f k n).length=n
 |0,_=>rfl
 |n+1,k=>by simp only[news,aU,qU f n]
theorem qV {α:Type}(f:Nat->α):∀ {n k i:Nat},i<n->(news f k n)[i]?=some (f (k+i))
 |0,_,_,h=>by omega
 |n+1,k,0,_=>rfl
 |n+1,k,i+1,h=>by simp only[news,aQ];rw[qV f (by omega)];congr 2;omega
theorem zV {α:Type}{a b:List α}{j:Nat}{x:α}(h:(a++b)[j]?=some x):(j<a.length/\a[j]?=some x)\/∃ k,j=a.length+k/\b[k]?=some x:=by
 rw[aG] at h;split at h;·rename_i q;exact .inl ⟨q,h⟩
 .rename_i q;exact .inr ⟨j - a.length,by omega,h⟩
theorem qW {α:Type}{a b:List α}{n k:Nat}(hl:a.length=n)(k':Nat)(hk:k'=n+k):(a++b)[k']?=b[k]?:=by rw[aG,if_neg (by omega)];congr 1;omega
theorem vC {X:TA}:∀ {l r:List (Nat×AO)},Oj X l=some r->r.length=l.length/\∀ (i:Nat) (U:Nat) (ao:AO),r[i]?=some (U,ao)->∃ U0 a0,l[i]?=some (U0,a0)/\X.blk U0=some U/\X.ao a0=some ao
 |[],r,h=>by cases h;exact⟨rfl,fun i U ao h=>by simp at h⟩
 |p :: l,r,h=>by
  simp only[Oj] at h;split at h
  .rename_i U a q h1 h2 h3;cases h;obtain⟨x,y⟩:=vC h3;refine⟨by simp[x],fun i U' ao hi=>?_⟩;cases i with
   |zero=>simp at hi;obtain⟨rfl,rfl⟩:=hi;exact⟨p.1,p.2,rfl,h1,h2⟩
   |succ i=>obtain⟨b,c,d,e,f⟩:=y i U' ao (by simpa using hi);exact⟨b,c,by simpa using d,e,f⟩
  .cases h
theorem zW {X:TA}:∀ {l r:List (LE×LE)},QY X l=some r->∀ q,q∈r->∃ p,p∈l/\X.le p.1=some q.1/\X.le p.2=some q.2
 |[],r,h=>by cases h;exact fun q hq=>by simp at hq
 |p :: l,r,h=>by
  simp only[QY] at h;split at h
  .rename_i a b q h1 h2 h3;cases h;intro x hx;rcases aq.1 hx with rfl|hx
   .exact⟨p,by simp,h1,h2⟩
   .obtain⟨y,y1,y2⟩:=zW h3 x hx;exact⟨y,aB _ y1,y2⟩
  .cases h
theorem kH {t:T (Nat×AO)}:∀ {l:List (Nat×AO)} {n:Nat},(l.map Prod.fst).Nodup->∀ {i:Nat} {U:Nat} {ao:AO},l[i]?=some (U,ao)->(gq n l t).get U=some (n+i,ao)
 |[],n,_,i,U,ao,h=>by simp at h
 |p :: l,n,nd,i,U,ao,h=>by
  have nd:=bC.1 nd;simp only[gq,T.eL];cases i with
  |zero=>simp at h;subst h;rw[if_pos rfl];rfl
  |succ i=>
   have h:l[i]?=some (U,ao):=by simpa using h
   have:U≠p.1:=fun e=>nd.1 (by rw[<- e];exact aJ.2 ⟨_,aC h,rfl⟩);rw[if_neg this,kH nd.2 h];congr 2;show Nat.succ n+i=n+(i+1);omega
section
variable {P:Program}{M:TH}{fr:FR}{Z:NV}{J:AS}{st:St}{K:A->AS->Bool}
theorem zX {R:List V->H->V->H->Prop}{cn:CN}{args:List A}(h:MB cn args J K=true)(hc:Ku R M cn)(hM:Mem M fr Z J st){vs:List V}(hvs:AVs Z args vs):∃ v h',R vs st.h v h'/\Eff M fr Z st v h' K:=by
 unfold MB at h;simp only at h;generalize hX:guess 1 0 0 (uc cn) { J with tm:=xQ 0 args .leaf,sz:=args.length }=X at h;split at h;case h_2=>cases h
 rename_i q;simp only[ae,T.beq_true] at q;obtain⟨⟨⟨⟨e1,e2⟩,e3⟩,e4⟩,e5⟩:=q;have hvl:vs.length=args.length:=hvs.len;have hM0:Mem M (lB Z J.mem st.h) Z { J with tm:=xQ 0 args .leaf,sz:=args.length } ⟨⟨args.length,fT 0 vs .leaf⟩,st.h,[]⟩:=hM.own (oq hvs ER.nil);have hb0:NV.le ⟨[0],[],[],[]⟩ Z:=⟨fun {x z} hx=>by
  cases x with
  |zero=>simp at hx;subst hx;exact hM.vr.z0
  |succ x=>simp at hx,fun hx=>by simp at hx,fun hx=>by simp at hx,fun hx=>by simp at hx⟩
 obtain⟨Zh,hps,m⟩:=G8 e5 hM0 hb0 rfl (by rw[e1];rfl) (by rw[e2];rfl) (by rw[e3];rfl);have hH:Mem M (lB Z J.mem st.h) Zh (fA cn args.length) ⟨⟨args.length,fT 0 vs .leaf⟩,st.h,[]⟩:=
  Ar hM0 m e1 e2 e3 rfl rfl ⟨fun {x p} hp=>by simp[rows,T.eR] at hp,fun {x p} hp=>by simp[rows,T.eR] at hp,fun he=>by simp at he⟩ (fun t a ht=>by rw[T.eR] at ht;cases ht) (fun U s ao hb=>by rw[T.eR] at hb;cases hb) rfl
 have hH2:Mem M (lB Zh (fA cn args.length).mem st.h) Zh (fA cn args.length) ⟨⟨args.length,fT 0 vs .leaf⟩,st.h,[]⟩:=hH.own hH.er;obtain⟨v,h',c1,o,ho,Zo,l1,hO,hfs,hres⟩:=hc Zh vs st.h args.length (by rw[hvl,e4]) m.fs hH2;refine⟨v,h',c1,?_⟩;have h:=gL h o ho;unfold zM at h;simp only at h;obtain⟨a,a1,h⟩:=eU h;obtain⟨ms,ms1,h⟩:=eU h;obtain⟨fs,fs1,h⟩:=eU h;split at h;·cases h
 rename_i hap;have hnd:=wF hap;have li:Zo.ints.length=1+cn.ni+o.ni:=hO.vr.ni;have ls:Zo.strs.length=cn.ns+o.ns:=hO.vr.ns;have lb:Zo.blks.length=cn.nb+o.nb:=hO.vr.nb;have lo:Zo.objs.length=cn.mem.length+o.mem.length:=hO.vr.no;have hXi:X.i.length=cn.ni/\X.s.length=cn.ns/\X.b.length=cn.nb:=by simp only[met,ae,T.beq_true] at e5;exact⟨e5.1.1.1.1.1.1.1.1.1,e5.1.1.1.1.1.1.1.1.2,e5.1.1.1.1.1.1.1.2⟩
 let Zn:NV:=⟨Z.ints++Zo.ints.drop (1+cn.ni),Z.strs++Zo.strs.drop cn.ns,Z.blks++Zo.blks.drop cn.nb,Z.objs++Zo.objs.drop cn.mem.length⟩;have hle:Z.le Zn:=⟨fun h=>by rw[aG,if_pos (ai.1 h).1];exact h,fun h=>by rw[aG,if_pos (ai.1 h).1];exact h,fun h=>by rw[aG,if_pos (ai.1 h).1];exact h,fun h=>by rw[aG,if_pos (ai.1 h).1];exact h⟩;have gi:∀ k,Zn.ints[J.nx+k]?=Zo.ints[1+cn.ni+k]?:=fun k=>by show(Z.ints++Zo.ints.drop (1+cn.ni))[J.nx+k]?=_;rw[qW hM.vr.ni _ rfl,bJ]
 have gs:∀ k,Zn.strs[J.ns+k]?=Zo.strs[cn.ns+k]?:=fun k=>by show(Z.strs++Zo.strs.drop cn.ns)[J.ns+k]?=_;rw[qW hM.vr.ns _ rfl,bJ]
 have gb:∀ k,Zn.blks[J.nb+k]?=Zo.blks[cn.nb+k]?:=fun k=>by show(Z.blks++Zo.blks.drop cn.nb)[J.nb+k]?=_;rw[qW hM.vr.nb _ rfl,bJ]
 have go:∀ k,Zn.objs[J.no+k]?=Zo.objs[cn.mem.length+k]?:=fun k=>by show(Z.objs++Zo.objs.drop cn.mem.length)[J.no+k]?=_;rw[qW hM.vr.no _ rfl,bJ]
 have tr:TR (O4 X o J) Zo Zn:=by
  refine⟨aF _,hO.vr.z0,hle.i hM.vr.z0,fun x hx=>?_,fun j r hr=>?_,fun x hx=>absurd hx (Nat.not_lt_zero _),fun j a ha=>?_,fun x hx=>absurd hx (Nat.not_lt_zero _),fun j U hU=>?_⟩
  .have hx:x<1:=hx;have:x=0:=by omega
   subst this;rw[hO.vr.z0,hle.i hM.vr.z0]
  .rcases zV hr with⟨q1,q2⟩|⟨k,rfl,q2⟩
   .have:=m.tr.i1 j r q2;rw[e1] at this;cases r with
    |e p=>obtain⟨y,y1,y2⟩:=this;exact⟨y,l1.i y1,y2.mono hle⟩
    |b e=>obtain⟨y,y1,y2⟩:=this;exact⟨y,l1.i y1,y2.mono hle⟩
   .have hk:k<o.ni:=by have:=(ai.1 q2).1;rw[qU] at this;exact this
    rw[qV _ hk] at q2;cases q2;have:=ah (l:=Zo.ints) (i:=1+cn.ni+k) (by omega);refine⟨Zo.ints[1+cn.ni+k]'(by omega),?_,⟨_,(gi k).trans this,by simp⟩⟩;show Zo.ints[1+(X.i.length+k)]?=_;rw[hXi.1,show 1+(cn.ni+k)=1+cn.ni+k by omega];exact this
  .rcases zV ha with⟨q1,q2⟩|⟨k,rfl,q2⟩;·obtain⟨s,s1,s2⟩:=m.tr.s1 j a q2;rw[e2] at s1;refine⟨s,l1.s s1,?_⟩;cases a<;>first|exact s2|exact hle.s s2
   .have hk:k<o.ns:=by have:=(ai.1 q2).1;rw[qU] at this;exact this
    rw[qV _ hk] at q2;cases q2;have:=ah (l:=Zo.strs) (i:=cn.ns+k) (by omega);refine⟨_,?_,(gs k).trans this⟩;show Zo.strs[0+(X.s.length+k)]?=_;rw[hXi.2.1,aI];exact this
  .rcases zV hU with⟨q1,q2⟩|⟨k,rfl,q2⟩;·obtain⟨b,b1,b2⟩:=m.tr.b1 j U q2;rw[e3] at b1;exact⟨b,l1.b b1,hle.b b2⟩
   .have hk:k<o.nb:=by have:=(ai.1 q2).1;rw[qU] at this;exact this
    rw[qV _ hk] at q2;cases q2;have:=ah (l:=Zo.blks) (i:=cn.nb+k) (by omega);refine⟨_,?_,(gb k).trans this⟩;show Zo.blks[0+(X.b.length+k)]?=_;rw[hXi.2.2,aI];exact this
 obtain⟨ml,mat⟩:=vC ms1;split at h;·rename_i hd;exfalso;obtain⟨g,g1,g2⟩:=oA hd;obtain⟨p,p1,p2,p3⟩:=zW fs1 g g1;obtain⟨x,y,x1,y1,xy⟩:=hfs p p1;have:=eV (hM.vr.zr.mono hle) (hle.i hM.vr.z0) g2 (((tr.le p3 _).1 y1).plus 1) ((tr.le p2 _).1 x1);omega
 have old:∀ x,KF Zh (fA cn args.length).mem x->x<st.h.next/\∃ U' s' act hp',J.mem.get U'=some (s',act)/\U'∈ko X (uc cn)/\Z.objs[s']?=some hp'/\∃ p,p∈hp'/\p.1=x:=fun x ⟨U,s,ao,hp,h1,h2,p,hp',e⟩=>by
  rcases gK (show(gq 0 (uc cn).mem .leaf).get U=some (s,ao) from h1) with⟨i,i1,i2⟩|⟨_,i2⟩
  .obtain⟨U',s',act,b,hp2,q1,q2,q3,q4,q5,q6,q7⟩:=m.mem i U ao i1;have:Zh.objs[s]?=some hp2:=by
    rw[i2,m.lo,aI];simpa using q6
   rw[h2] at this;cases this;obtain⟨b3,hp3,_,x2,_,x4⟩:=hM.hr.at' _ _ _ q3;rw[q5] at x2;cases x2;exact⟨by rw[<- e];exact(x4 p hp').2.1,U',s',act,hp,q3,aC q2,q5,p,hp',e⟩
  .rw[T.eR] at i2;cases i2
 have keep:∀ x,x<st.h.next->¬ KF Zh (fA cn args.length).mem x->h'.tr.get x=st.h.tr.get x:=fun x q1 q2=>hO.hr.frame x q1 q2;have hnext:st.h.next<=h'.next:=hO.hr.le;have rest:∀ U s ao,(tZ (ko X (uc cn)) J.mem).get U=some (s,ao)->J.mem.get U=some (s,ao)/\∀ hp,Z.objs[s]?=some hp->∀ p,p∈hp->p.1<st.h.next/\¬ KF Zh (fA cn args.length).mem p.1:=fun U s ao hd=>by obtain⟨d1,d2⟩:=sB hd;refine⟨d2,fun hp e p hp'=>?_⟩;obtain⟨b,hp2,x1,x2,x3,x4⟩:=hM.hr.at' _ _ _ d2;rw[e] at x2;cases x2;refine⟨(x4 p hp').2.1,fun q=>?_⟩;obtain⟨_,U',s',act,hp3,y1,y2,y3,p2,y4,y5⟩:=old _ q;exact hM.hr.sep _ _ _ _ _ _ d2 y1 (fun e=>d1 (by rw[e];exact y2)) _ _ e y3 p hp' p2 y4 y5.symm
 have comes:∀ (i U:Nat) (ao:AO),ms[i]?=some (U,ao)->∃ b hp,Zn.blks[U]?=some b/\Zn.objs[J.no+i]?=some hp/\AOR M Zn ao b hp/\∃ U0 a0,o.mem[i]?=some (U0,a0)/\(Fc cn o).mem.get U0=some (cn.mem.length+i,a0)/\Zo.objs[cn.mem.length+i]?=some hp/\(O4 X o J).blk U0=some U:=fun i U ao hi'=>by
  obtain⟨U0,a0,j1,j2,j3⟩:=mat i U ao hi';have ndo:(o.mem.map Prod.fst).Nodup:=by
   have key:∀ (l r:List (Nat×AO)),Oj (O4 X o J) l=some r->(r.map Prod.fst).Nodup->(l.map Prod.fst).Nodup:=fun l=>by
    induction l with
    |nil=>intro r _ _;exact .nil
    |cons p l ih=>
     intro r hr nd;simp only[Oj] at hr;split at hr
     .rename_i bb aa q h1 h2 h3;cases hr;have nd:=bC.1 nd;refine bC.2 ⟨fun hx=>nd.1 ?_,ih _ h3 nd.2⟩;obtain⟨y,y1,y2⟩:=aJ.1 hx;obtain⟨w,w1⟩:=aX.1 y1;have hw:w<q.length:=by
       have:=(vC h3).1;have:=(ai.1 w1).1;omega
      obtain⟨b0,a0,z1,z2,z3⟩:=(vC h3).2 w _ _ (ah hw);rw[w1] at z1;cases z1;have e:bb=(q[w]).1:=by
       have:(O4 X o J).blk p.1=some (q[w]).1:=by rw[<- y2];exact z2
       rw[h1] at this;exact bP this
      rw[e];exact aJ.2 ⟨_,dA hw,rfl⟩
     .cases hr
   exact key _ _ ms1 hnd
  have hg:(Fc cn o).mem.get U0=some (cn.mem.length+i,a0):=kH (n:=cn.mem.length) ndo j1;obtain⟨b,hp,x1,x2,x3,x4⟩:=hO.hr.at' _ _ _ hg;refine⟨b,hp,?_,(go i).trans x2,(tr.ao j3).1 x3,U0,a0,j1,hg,x2,j2⟩;rw[<- tr.blk j2];exact x1
 refine⟨Zn,{ J with mem:=gq J.no ms (tZ (ko X (uc cn)) J.mem),nx:=Nat.add J.nx o.ni,ns:=Nat.add J.ns o.ns,nb:=Nat.add J.nb o.nb,no:=Nat.add J.no ms.length,z:=ie fs J.z },a,hle,⟨⟨?_,?_,?_,?_,hle.i hM.vr.z0,?_⟩,hM.sz,hM.er.mono hle,⟨fun U s ao hg=>?_,fun U s ao E s' ao' hg hg' hne hp hp' e e'=>?_,fun x hx hF=>?_,bF hM.hr.le hnext,hM.hr.gl⟩,hM.df.nd,fun d hd=>?_,fun d hd U s ao hp hg e p hp'=>?_⟩,(tr.a a1).av hres,h⟩;·show(Z.ints++_).length=_;rw[bt,bO,li,hM.vr.ni];show _=J.nx+o.ni;omega
 .show(Z.strs++_).length=_;rw[bt,bO,ls,hM.vr.ns];show _=J.ns+o.ns;omega
 .show(Z.blks++_).length=_;rw[bt,bO,lb,hM.vr.nb];show _=J.nb+o.nb;omega
 .show(Z.objs++_).length=_;rw[bt,bO,lo,hM.vr.no,ml];show _=J.no+o.mem.length;omega
 .refine kg (hM.vr.zr.mono hle) fun q hq=>?_;obtain⟨p,p1,p2,p3⟩:=zW fs1 q hq;obtain⟨x,y,x1,y1,xy⟩:=hfs p p1;exact⟨x,y,(tr.le p2 _).1 x1,(tr.le p3 _).1 y1,xy⟩
 .rcases gK hg with⟨i,i1,i2⟩|⟨_,i2⟩
  .obtain⟨b,hp,x1,x2,x3,U0,a0,x4,x5,x6,_⟩:=comes i U ao i1;obtain⟨_,hp2,_,y2,_,y4⟩:=hO.hr.at' _ _ _ x5;rw[x6] at y2;cases y2;refine⟨b,hp,x1,by rw[i2];exact x2,x3,fun p hp'=>?_⟩;obtain⟨z1,z2,z3⟩:=y4 p hp';refine⟨z1,z2,?_⟩;rcases z3 with q|q;·obtain⟨_,U',s',act,hp3,w1,w2,w3,p2,w4,w5⟩:=old _ q;obtain⟨_,hp4,_,v2,_,v4⟩:=hM.hr.at' _ _ _ w1;rw[w3] at v2;cases v2;rw[<- w5];exact(v4 p2 w4).2.2
   .exact .inr (bF hM.hr.le q)
  .obtain⟨r1,r2⟩:=rest _ _ _ i2;obtain⟨b,hp,x1,x2,x3,x4⟩:=hM.hr.at' _ _ _ r1;refine⟨b,hp,hle.b x1,hle.o x2,x3.mono hle,fun p hp'=>?_⟩;obtain⟨z1,z2,z3⟩:=x4 p hp';obtain⟨w1,w2⟩:=r2 hp x2 p hp';exact⟨by rw[keep _ w1 w2];exact z1,by show p.1<h'.next;omega,z3⟩
 .
  have mix:∀ (i U:Nat) (ao:AO),ms[i]?=some (U,ao)->∀ U2 s2 ao2,(tZ (ko X (uc cn)) J.mem).get U2=some (s2,ao2)->∀ hp1 hp2,Zn.objs[J.no+i]?=some hp1->Zn.objs[s2]?=some hp2->∀ p,p∈hp1->∀ q,q∈hp2->p.1≠q.1:=fun i U ao i1 U2 s2 ao2 i2 hp1 hp2 q1 q2 p hp q hq=>by
   obtain⟨b,hp3,x1,x2,x3,U0,a0,x4,x5,x6,_⟩:=comes i U ao i1;rw[q1] at x2;cases x2;obtain⟨r1,r2⟩:=rest _ _ _ i2;obtain⟨_,hp4,_,y2,_,y4⟩:=hM.hr.at' _ _ _ r1;rw[hle.o y2] at q2;cases q2;obtain⟨w1,w2⟩:=r2 _ y2 q hq;obtain⟨_,hp5,_,z2,_,z4⟩:=hO.hr.at' _ _ _ x5;rw[x6] at z2;cases z2;rcases(z4 p hp).2.2 with g|g;·exact fun e=>w2 (by rw[<- e];exact g)
   .have:st.h.next<=p.1:=g;omega
  rcases gK hg with⟨i,i1,i2⟩|⟨i0,i2⟩
  .rcases gK hg' with⟨j,j1,j2⟩|⟨_,j2⟩;·obtain⟨b,hp3,x1,x2,x3,U0,a0,x4,x5,x6,x7⟩:=comes i U ao i1;obtain⟨b',hp4,y1,y2,y3,E0,c0,y4,y5,y6,y7⟩:=comes j E ao' j1;rw[i2,x2] at e;cases e;rw[j2,y2] at e';cases e';refine hO.hr.sep _ _ _ _ _ _ x5 y5 (fun e=>?_) _ _ x6 y6;rw[e,y7] at x7;exact hne (bP x7).symm
   .rw[i2] at e;exact mix i U ao i1 _ _ _ j2 _ _ e e'
  .rcases gK hg' with⟨j,j1,j2⟩|⟨_,j2⟩;·rw[j2] at e';intro p hp q hq e3;exact mix j E ao' j1 _ _ _ i2 _ _ e' e q hq p hp e3.symm
   .obtain⟨r1,_⟩:=rest _ _ _ i2;obtain⟨r1',_⟩:=rest _ _ _ j2;obtain⟨_,hp3,_,y2,_,_⟩:=hM.hr.at' _ _ _ r1;obtain⟨_,hp4,_,z2,_,_⟩:=hM.hr.at' _ _ _ r1';rw[hle.o y2] at e;cases e;rw[hle.o z2] at e';cases e';exact hM.hr.sep _ _ _ _ _ _ r1 r1' hne _ _ y2 z2
 .have hn:¬ KF Zh (fA cn args.length).mem x:=fun q=>by
   obtain⟨_,U',s',act,hp3,w1,w2,w3,p2,w4,w5⟩:=old _ q;obtain⟨_,hp4,_,v2,_,v4⟩:=hM.hr.at' _ _ _ w1;rw[w3] at v2;cases v2;rcases(v4 p2 w4).2.2 with g|g;·rw[w5] at g;exact hF g
   .rw[w5] at g;omega
  rw[keep x (by have:=hM.hr.le;omega) hn];exact hM.hr.frame x hx hF
 .obtain⟨d1,d2,d3⟩:=hM.df.at' d hd;have hn:¬ KF Zh (fA cn args.length).mem d:=fun q=>by
   obtain⟨_,U',s',act,hp3,w1,w2,w3,p2,w4,w5⟩:=old _ q;exact hM.df.sep d hd _ _ _ _ w1 w3 p2 w4 w5
  exact⟨by rw[keep d d2 hn];exact d1,by show d<h'.next;omega,d3⟩
 .have d2:=(hM.df.at' d hd).2.1;rcases gK hg with⟨i,i1,i2⟩|⟨_,i2⟩
  .obtain⟨b,hp3,x1,x2,x3,U0,a0,x4,x5,x6,_⟩:=comes i U ao i1;rw[i2,x2] at e;cases e;obtain⟨_,hp5,_,z2,_,z4⟩:=hO.hr.at' _ _ _ x5;rw[x6] at z2;cases z2;rcases(z4 p hp').2.2 with g|g;·obtain⟨_,U',s',act,hp3,w1,w2,w3,p2,w4,w5⟩:=old _ g;exact fun e=>hM.df.sep d hd _ _ _ _ w1 w3 p2 w4 (w5.trans e)
   .have:st.h.next<=p.1:=g;omega
  .obtain⟨r1,_⟩:=rest _ _ _ i2;obtain⟨_,hp3,_,y2,_,_⟩:=hM.hr.at' _ _ _ r1;rw[hle.o y2] at e;cases e;exact hM.df.sep d hd _ _ _ _ r1 y2 p hp'
theorem LW {f:FuncId}{cn:CN}{args:List A}(h:MB cn args J K=true)(hc:fP P M f cn)(hM:Mem M fr Z J st){vs:List V}(hvs:AVs Z args vs):∃ v h',iW P (.fn f vs) st.h v h'/\Eff M fr Z st v h' K:=
 zX (R:=fun vs h v h'=>iW P (.fn f vs) h v h') h (fun Z vs h n a _ b=>hc Z vs h n a b) hM hvs
end
end Go.Ae
namespace Go.Ae
open Go.Ev
structure NV.sub (Z Z':NV):Prop where
 i:∀ {x:Nat} {z:Int},Z.ints[x]?=some z->Z'.ints[x]?=some z
 s:∀ {x:Nat} {z:List UInt8},Z.strs[x]?=some z->Z'.strs[x]?=some z
 b:∀ {x:Nat} {z:Nat},Z.blks[x]?=some z->Z'.blks[x]?=some z
theorem Num.sub {Z Z':NV}(h:NV.sub Z Z'){e:LE}{z:Int}(n:Num Z e z):Num Z' e z:=let ⟨y,a,b⟩:=n;⟨y,h.i a,b⟩
theorem BV.sub {Z Z':NV}(h:NV.sub Z Z'){e:BE}{b:Bool}(n:BV Z e b):BV Z' e b:=by
 induction n with
 |lit b=>exact .lit b
 |lt a b=>exact .lt (a.sub h) (b.sub h)
 |eq a b=>exact .eq (a.sub h) (b.sub h)
 |not _ ih=>exact .not ih
theorem pC.sub {Z Z':NV}(h:NV.sub Z Z'){o:Off}{n:Nat}(k:pC Z o n):pC Z' o n:=let ⟨m,a,b⟩:=k;⟨m,fun q=>(a q).sub h,b⟩
theorem xj.sub {Z Z':NV}(h:NV.sub Z Z'){a:BG}{c:Cap}(k:xj Z a c):xj Z' a c:=by
 cases k with
 |kn q=>exact .kn (q.sub h)
 |al q=>exact .al (q.sub h)
theorem Low.sub {Z Z':NV}(h:NV.sub Z Z'){e:Option LE}{z:Int}(k:Low Z e z):Low Z' e z:=fun e q=>let ⟨a,x,y⟩:=k e q;⟨a,x.sub h,y⟩
theorem ug.sub {Z Z':NV}(h:NV.sub Z Z'){e:Option LE}{z:Int}(k:ug Z e z):ug Z' e z:=fun e q=>let ⟨a,x,y⟩:=k e q;⟨a,x.sub h,y⟩
theorem KV.sub {Z Z':NV}(h:NV.sub Z Z'){k:EK}(hn:noK k=true){v:V}(q:KV Z k v):KV Z' k v:=by
 cases q with
 |int r l u=>exact .int r (l.sub h) (u.sub h)
 |bool b=>exact .bool b
 |str s=>exact .str s
 |cst v=>exact .cst v
 |re=>cases hn
 |re0=>cases hn
 |stb q=>exact .stb q
theorem CI {ks:List EK}(h:ks.all noK=true){i:Nat}{k:EK}(hk:ks[i]?=some k):noK k=true:=bz.1 h k (aC hk)
theorem WV.sub {Z Z':NV}(h:NV.sub Z Z'){a:A}{n:Nat}(k:WV Z a n):WV Z' a n:=by
 cases k with
 |one q=>exact .one q
 |rw q g=>exact .rw (q.sub h) fun fe as e=>let ⟨a,m,b,c⟩:=g fe as e;⟨a,m,b.sub h,c⟩
theorem gp.sub {Z Z':NV}(h:NV.sub Z Z'){l:List A}{n:Nat}(k:gp Z l n):gp Z' l n:=by
 induction k with
 |nil=>exact .nil
 |cons a _ ih=>exact .cons (a.sub h) ih
mutual
theorem AV.sub {Z Z':NV}(h:NV.sub Z Z'):∀ {a:A} {v:V},noA a=true->AV Z a v->AV Z' a v
 |_,_,_,.k v=>.k v
 |_,_,_,.i q=>.i (q.sub h)
 |_,_,_,.b q=>.b (q.sub h)
 |_,_,_,.s q r=>.s (h.s q) (h.i r)
 |_,_,_,.p q r=>.p (h.b q) (r.sub h)
 |_,_,_,.sl q r s t=>.sl (h.b q) (r.sub h) (s.sub h) (t.sub h)
 |_,_,_,.su q r s a b c=>.su (h.b q) (r.sub h) (s.sub h) a b c
 |_,_,_,.su0 q=>.su0 (q.sub h)
 |_,_,hn,.re _ _=>by simp[noA] at hn
 |_,_,hn,.re0 _ _=>by simp[noA] at hn
 |_,_,_,.sn a b c=>.sn (a.sub h) (b.sub h) (c.sub h)
 |_,_,_,.sn0 a b=>.sn0 (a.sub h) (b.sub h)
 |_,_,_,.m q=>.m (h.b q)
 |_,_,hn,.fn q r=>.fn (AVs.sub h (by simp only[noA,ae] at hn;exact hn.1) q) (AVs.sub h (by simp only[noA,ae] at hn;exact hn.2) r)
 |_,_,_,.yd q=>.yd (h.b q)
 |_,_,hn,.ifc q=>.ifc (AV.sub h (by simpa only[noA] using hn) q)
 |_,_,hn,.ag q t r=>.ag (q.sub h) t fun i c x=>CA.sub h (by simpa only[noA] using hn) (r i c x)
 |_,_,hn,.tp q=>.tp (AVs.sub h (by simpa only[noA] using hn) q)
theorem AVs.sub {Z Z':NV}(h:NV.sub Z Z'):∀ {a:List A} {v:List V},zN a=true->AVs Z a v->AVs Z' a v
 |_,_,_,.nil=>.nil
 |_,_,hn,.cons q r=>.cons (AV.sub h (by simp only[zN,ae] at hn;exact hn.1) q) (AVs.sub h (by simp only[zN,ae] at hn;exact hn.2) r)
theorem CA.sub {Z Z':NV}(h:NV.sub Z Z'):∀ {l:List A} {i:Nat} {v:V},zN l=true->CA Z l i v->CA Z' l i v
 |_,_,_,hn,.here p q=>.here p (AV.sub h (by simp only[zN,ae] at hn;exact hn.1) q)
 |_,_,_,hn,.skip q r=>.skip (q.sub h) (CA.sub h (by simp only[zN,ae] at hn;exact hn.2) r)
 |.rw _ _ none :: _,_,_,hn,.row a b c d e=>.row (a.sub h) b (fun fe as q=>nomatch q) d (e.sub h (CI (by simp only[zN,noA,ae] at hn;exact hn.1) d))
 |.rw _ _ (some _) :: _,_,_,hn,.row _ _ _ _ _=>by simp[zN,noA] at hn
 |_,_,_,hn,.foc a b c d e f g=>by simp only[zN,noA,ae] at hn;cases hn.1
end
theorem CR.sub {Z Z':NV}(h:NV.sub Z Z'){l:List A}(hn:zN l=true){n:Nat}{pat:List V}{tr:T V}(k:CR Z l n pat tr):CR Z' l n pat tr:=⟨k.len.sub h,k.all,fun i c q=>(k.at' i c q).sub h hn⟩
theorem rO.sub {Z Z':NV}(h:NV.sub Z Z'){l:List LE}{zs:List Int}(k:rO Z l zs):rO Z' l zs:=by
 induction k with
 |nil=>exact .nil
 |cons a _ ih=>exact .cons (a.sub h) ih
theorem KsV.sub {Z Z':NV}(h:NV.sub Z Z'){ag:Bool}{ks:List EK}(hn:ks.all noK=true){v:V}(k:KsV Z ag ks v):KsV Z' ag ks v:=by
 cases ag with
 |false=>obtain⟨x,a,b⟩:=k;subst a;exact⟨x,rfl,b.sub h (CI (i:=0) hn rfl)⟩
 |true=>obtain⟨n,pat,tr,a,b,c⟩:=k;exact⟨n,pat,tr,a,b,fun i hi=>let ⟨c,k,x,y,z⟩:=c i hi;⟨c,k,x,y,z.sub h (CI hn y)⟩⟩
theorem RRV.sub {Z Z':NV}{te:TypeId}{ks:List EK}{B:Nat}{cnt mm:Nat}{pat:List V}{tr:T V}{L:List (List (Nat×O))}{g:Option Nat}(h:NV.sub Z Z')(hn:ks.all noK=true)(q:RRV Z te ks B none cnt mm pat tr L g):RRV Z' te ks B none cnt mm pat tr L g:=by refine⟨q.le,q.all,q.len,?_,fun i c hp a b d=>(q.own i c hp a b d).map rfl fun _ k hk=>⟨k,hk,fun _ r=>r.sub h (CI hn hk)⟩,fun i c hp e a x y z w=>nomatch w⟩;have:=q.hf;cases g<;>exact this
theorem SoR.sub {Z Z':NV}(h:NV.sub Z Z'){n k:LE}{lo hi:Option LE}{els:List (LE×LE)}{cnt:Nat}{f:Nat->Int}(q:SoR Z n k lo hi els cnt f):SoR Z' n k lo hi els cnt f:=by obtain⟨a,b,⟨kk,c1,c2,c3⟩,d⟩:=q;exact⟨a.sub h,b,⟨kk,c1.sub h,c2,fun i x y=>let ⟨u,v⟩:=c3 i x y;⟨u.sub h,v.sub h⟩⟩,fun p hp=>let ⟨i,x,y,z⟩:=d p hp;⟨i,x.sub h,y,z.sub h⟩⟩
theorem AOR.sub {M:TH}{Z Z':NV}(h:NV.sub Z Z'){ao:AO}(hn:noO ao=true){b:Nat}{hp:List (Nat×O)}(k:AOR M Z ao b hp):AOR M Z' ao b hp:=by
 cases k with
 |cl q=>exact .cl (q.sub h hn)
 |ro q=>exact .ro (q.sub h hn)
 |mp q=>simp only[noO,ae] at hn;exact .mp fun e he=>let ⟨x,y,z⟩:=q e he;⟨x.sub h hn.1,y.sub h hn.2,z⟩
 |df=>exact .df
 |lp q=>cases hn
 |ob q r s t=>exact .ob (q.sub h) r s t
 |it q r=>exact .it (q.sub h hn) (r.sub h)
 |@rr _ _ _ _ _ _ foc _ _ _ _ _ _ _ _ z a b c d=>
  cases foc with
  |some _=>cases hn
  |none=>exact .rr (z.sub h) (a.sub h) (b.sub h) (c.sub h hn) d
 |mx a b=>cases hn
 |bc a b c d e=>exact .bc (a.sub h) b (c.sub h) d fun e' be q=>let ⟨i,bo,x,y,z,u⟩:=e e' be q;⟨i,bo,x.sub h,y,z,u.sub h⟩
 |so a b c=>exact .so (a.sub h) b c
 |sp a b c d e f g i=>exact .sp (h.b a) (b.sub h) (c.sub h) d e f g i
 |me a b c=>cases hn
 |tl a b c=>cases hn
 |mq a b c d e f g=>cases hn
end Go.Ae
namespace Go.Ae
open Go.Ev Go.RowKit
variable {M B:TH}{Z:NV}{ao:AO}{b τ U:Nat}{hp:List (Nat×O)}{inv:Nat->Nat×List PT}{J:AS}{st:St}{K:AS->Bool}
def QL (M:TH)(p:PT)(zs:List Int)(b:Nat)(hp:List (Nat×O)):Prop:=
 ∃ (xs:List Int) (ss:List (List UInt8)) (bs:List Nat) (hps:List (List (Nat×O))),xs.length=p.ni/\ss.length=p.ns/\bs.length=p.nb/\hps.length=p.mem.length/\(∀ g,g∈p.fs->Holds ⟨0 :: (zs++xs),ss,b :: bs,[]⟩ g) /\
  (∀ (i U:Nat) (ao:AO),p.mem[i]?=some (U,ao)->∃ bb hpi,(b :: bs)[U]?=some bb/\hps[i]?=some hpi/\AOR M ⟨0 :: (zs++xs),ss,b :: bs,[]⟩ ao bb hpi)/\hp=hps.flatten
def ThN (B:TH)(inv:Nat->Nat×List PT):Nat->TH
 |0=>fun _ _ _ _=>False
 |n+1=>fun τ zs b hp=>zs.length=(inv τ).1/\(((inv τ).2=[]/\B τ zs b hp)\/∃ p,p∈(inv τ).2/\QL (ThN B inv n) p zs b hp)
def Th (B:TH)(inv:Nat->Nat×List PT):TH:=fun τ zs b hp=>∃ n,ThN B inv n τ zs b hp
theorem AOR.imp {M':TH}(f:∀ τ zs b hp,M τ zs b hp->M' τ zs b hp)(h:AOR M Z ao b hp):AOR M' Z ao b hp:=by
 cases h with
 |cl q=>exact .cl q
 |ro q=>exact .ro q
 |mp q=>exact .mp q
 |df=>exact .df
 |lp q=>exact .lp q
 |ob q r s t=>exact .ob q (f _ _ _ _ r) s t
 |it q r=>exact .it q r
 |rr z a b c d=>exact .rr z a b c d
 |mx a b c=>exact .mx a b c
 |bc a b c d e=>exact .bc a b c d e
 |so a b c=>exact .so a b c
 |sp a b c d e f g i=>exact .sp a b c d e f g i
 |me a b c=>exact .me a b c
 |tl a b c=>exact .tl a b c
 |mq a b c d e f g=>exact .mq a b c d e f g
theorem QL.imp {M M':TH}(f:∀ τ zs b hp,M τ zs b hp->M' τ zs b hp){p:PT}{zs:List Int}{b:Nat}{hp:List (Nat×O)}(h:QL M p zs b hp):QL M' p zs b hp:=by obtain⟨xs,ss,bs,hps,h1,h2,h3,h4,h5,h6,h7⟩:=h;exact⟨xs,ss,bs,hps,h1,h2,h3,h4,h5,fun i U ao q=>let ⟨bb,hpi,a,b,c⟩:=h6 i U ao q;⟨bb,hpi,a,b,c.imp f⟩,h7⟩
theorem ThN.up {B:TH}{inv:Nat->Nat×List PT}:∀ {n:Nat} {τ:Nat} {zs:List Int} {b:Nat} {hp:List (Nat×O)},ThN B inv n τ zs b hp->ThN B inv (n+1) τ zs b hp
 |0,_,_,_,_,h=>h.elim
 |n+1,_,_,_,_,⟨hl,.inl h⟩=>⟨hl,.inl h⟩
 |n+1,_,_,_,_,⟨hl,.inr ⟨p,hp,h⟩⟩=>⟨hl,.inr ⟨p,hp,h.imp fun _ _ _ _ q=>ThN.up q⟩⟩
theorem ThN.le {n m:Nat}(h:n<=m){zs:List Int}(q:ThN B inv n τ zs b hp):ThN B inv m τ zs b hp:=by
 induction h with
 |refl=>exact q
 |step _ ih=>exact ih.up
theorem AOR.lvl (h:AOR (Th B inv) Z ao b hp):∃ n,AOR (ThN B inv n) Z ao b hp:=by
 cases h with
 |cl q=>exact⟨0,.cl q⟩
 |ro q=>exact⟨0,.ro q⟩
 |mp q=>exact⟨0,.mp q⟩
 |df=>exact⟨0,.df⟩
 |lp q=>exact⟨0,.lp q⟩
 |ob q r s t=>obtain⟨n,r⟩:=r;exact⟨n,.ob q r s t⟩
 |it q r=>exact⟨0,.it q r⟩
 |rr z a b c d=>exact⟨0,.rr z a b c d⟩
 |mx a b c=>exact⟨0,.mx a b c⟩
 |bc a b c d e=>exact⟨0,.bc a b c d e⟩
 |so a b c=>exact⟨0,.so a b c⟩
 |sp a b c d e f g i=>exact⟨0,.sp a b c d e f g i⟩
 |me a b c=>exact⟨0,.me a b c⟩
 |tl a b c=>exact⟨0,.tl a b c⟩
 |mq a b c d e f g=>exact⟨0,.mq a b c d e f g⟩
theorem AOR.nodup (h:AOR M Z ao b hp):(hp.map Prod.fst).Nodup:=by cases h<;>first|assumption|(simp;done)|(simp;assumption)
theorem xC {Q:Nat->Nat->Prop}(hm:∀ i n m,n<=m->Q i n->Q i m):∀ (L:Nat),(∀ i,i<L->∃ n,Q i n)->∃ N,∀ i,i<L->Q i N
 |0,_=>⟨0,fun i h=>by omega⟩
 |L+1,h=>by
  obtain⟨N,hN⟩:=xC hm L fun i hi=>h i (by omega);obtain⟨n,hn⟩:=h L (by omega);refine⟨max N n,fun i hi=>?_⟩;by_cases e:i=L;·subst e;exact hm _ _ _ (Nat.le_max_right _ _) hn
  .exact hm _ _ _ (Nat.le_max_left _ _) (hN i (by omega))
theorem qX:∀ {hps:List (List (Nat×O))},(hps.flatten.map Prod.fst).Nodup->∀ {i j:Nat} {a c:List (Nat×O)},hps[i]?=some a->hps[j]?=some c->i≠j->∀ p,p∈a->∀ q,q∈c->p.1≠q.1
 |[],_,i,_,_,_,h,_,_=>by simp at h
 |x :: l,nd,i,j,a,c,hi,hj,hne=>by
  rw[dW,cP,dJ] at nd;obtain⟨_,n2,n3⟩:=nd;have inl:∀ {k:Nat} {y:List (Nat×O)},l[k]?=some y->∀ q,q∈y->q.1∈l.flatten.map Prod.fst:=fun hk q hq=>aJ.2 ⟨q,ct.2 ⟨_,aC hk,hq⟩,rfl⟩;cases i with
  |zero=>
   simp at hi;subst hi;cases j with
   |zero=>exact absurd rfl hne
   |succ j=>exact fun p hp q hq=>n3 _ (aJ.2 ⟨p,hp,rfl⟩) _ (inl (by simpa using hj) q hq)
  |succ i=>
   have hi:l[i]?=some a:=by simpa using hi
   cases j with
   |zero=>simp at hj;subst hj;exact fun p hp q hq e=>n3 _ (aJ.2 ⟨q,hq,rfl⟩) _ (inl hi p hp) e.symm
   |succ j=>exact qX n2 hi (by simpa using hj) (by omega)
theorem pc:∀ {hps:List (List (Nat×O))},(∀ (i:Nat) (a:List (Nat×O)),hps[i]?=some a->(a.map Prod.fst).Nodup)->(∀ (i j:Nat) (a c:List (Nat×O)),hps[i]?=some a->hps[j]?=some c->i≠j->∀ p,p∈a->∀ q,q∈c->p.1≠q.1)->(hps.flatten.map Prod.fst).Nodup
 |[],_,_=>.nil
 |x :: l,h1,h2=>by rw[dW,cP,dJ];refine⟨h1 0 x rfl,pc (fun i a q=>h1 (i+1) a (by simpa using q)) fun i j a c hi hj hne=>h2 (i+1) (j+1) a c (by simpa using hi) (by simpa using hj) (by omega),fun a ha b hb=>?_⟩;obtain⟨p,p1,p2⟩:=aJ.1 ha;obtain⟨q,q1,q2⟩:=aJ.1 hb;obtain⟨y,y1,y2⟩:=ct.1 q1;obtain⟨k,hk⟩:=aX.1 y1;have:=h2 0 (k+1) x y rfl (by simpa using hk) (by omega) p p1 q y2;rw[<- p2,<- q2];exact this
theorem xD {Z:NV}:∀ {k s:Nat} {zs:List Int},zs.length=k->(∀ j z,zs[j]?=some z->Z.ints[s+j]?=some z)->rO Z (news (fun j=>(j,0)) s k) zs
 |0,s,[],_,_=>.nil
 |k+1,s,z :: zs,hl,h=>.cons ⟨z,h 0 z rfl,by simp⟩ (xD (by simpa using hl) fun j y hy=>by have:=h (j+1) y (by simpa using hy);rw[show Nat.succ s+j=s+(j+1) by omega];exact this)
 |0,s,_ :: _,h,_=>by simp at h
 |k+1,s,[],h,_=>by simp at h
theorem rN {Z:NV}:∀ {k s:Nat} {zs:List Int},rO Z (news (fun j=>(j,0)) s k) zs->zs.length=k/\∀ j z,zs[j]?=some z->Z.ints[s+j]?=some z
 |0,s,zs,h=>by cases h;exact⟨rfl,fun j z h=>by simp at h⟩
 |k+1,s,zs,h=>by
  cases h with
  |cons a b=>
   obtain⟨h1,h2⟩:=rN b;refine⟨by simp[h1],fun j z hz=>?_⟩;cases j with
   |zero=>simp at hz;subst hz;obtain⟨y,y1,y2⟩:=a;rw[y2];simpa using y1
   |succ j=>have:=h2 j z (by simpa using hz);rw[show s+(j+1)=Nat.succ s+j by omega];exact this
theorem nZ:ZR Z ⟨.leaf,.leaf,[]⟩:=⟨fun {x p} hp=>by simp[rows,T.eR] at hp,fun {x p} hp=>by simp[rows,T.eR] at hp,fun he=>by simp at he⟩
theorem pZ {a:A}{v:V}(h:AV Z a v):ER Z (lJ [(0,a)] .leaf) (T.leaf.put 0 (some v)):=fun t b ht=>by
 simp only[lJ,T.eL] at ht;rw[T.eL];split at ht;·rename_i e;cases ht;rw[if_pos e];exact⟨v,rfl,h⟩
 .rw[T.eR] at ht;cases ht
def ghR (_:List V)(h:H)(v:V)(h':H):Prop:=v=.tuple []/\h'=h
theorem BN {fr:FR}{mem:T (Nat×AO)}{h:H}:DR fr Z mem h []:=⟨.nil,(fun b hb=>by simp at hb),fun b hb=>by simp at hb⟩
theorem L8 (hne:(inv τ).2≠[]):Ku ghR (Th B inv) ⟨(inv τ).1,0,1,[.p 0 oz],[(0,.ob τ (news (fun j=>(j,0)) 1 (inv τ).1))],[],(inv τ).2.map fun p=>⟨p.ni,p.ns,p.nb,.tp [],p.mem,p.fs⟩⟩:=fun Z vs h n hl hfs hM=>by
 generalize hcn:(⟨(inv τ).1,0,1,[.p 0 oz],[(0,.ob τ (news (fun j=>(j,0)) 1 (inv τ).1))],[],(inv τ).2.map fun p=>⟨p.ni,p.ns,p.nb,.tp [],p.mem,p.fs⟩⟩:CN)=cn at hM hl hfs ⊢;obtain⟨b,hp,x1,x2,x3,x4⟩:=hM.hr.at' 0 0 (.ob τ (news (fun j=>(j,0)) 1 (inv τ).1)) (by subst hcn;show(gq 0 [(0,_)] T.leaf).get 0=_;simp only[gq,T.eL,if_pos]);have li:Z.ints.length=1+(inv τ).1:=by have:=hM.vr.ni;subst hcn;exact this
 have ls:Z.strs.length=0:=by have:=hM.vr.ns;subst hcn;exact this
 have lb:Z.blks.length=1:=by have:=hM.vr.nb;subst hcn;exact this
 have lo:Z.objs.length=1:=by have:=hM.vr.no;subst hcn;exact this
 have z0:=hM.vr.z0;cases x3 with
 |@ob _ _ _ zs _ y1 y2 y3 y4=>
  obtain⟨m,y2⟩:=y2;cases m with
  |zero=>exact y2.elim
  |succ m=>
   obtain⟨hzl,y2⟩:=y2;obtain⟨p,hpm,xs,ss,bs,hps,g1,g2,g3,g4,g5,g6,g7⟩:=y2.resolve_left fun q=>hne q.1;obtain⟨zl,zi⟩:=rN y1;have hints:Z.ints=0 :: zs:=cV fun j=>by
    cases j with
    |zero=>exact z0
    |succ j=>
     show _=zs[j]?;cases q:zs[j]? with
     |some z=>rw[bp j 1];exact zi j z q
     |none=>have:=bR.1 q;exact bR.2 (by omega)
   have hblk:Z.blks=[b]:=cV fun j=>by
    cases j with
    |zero=>exact x1
    |succ j=>rw[bR.2 (by omega)];simp
   have hobj:Z.objs=[hp]:=cV fun j=>by
    cases j with
    |zero=>exact x2
    |succ j=>rw[bR.2 (by omega)];simp
   have hstr:Z.strs=[]:=aO.1 ls;let Zo:NV:=⟨0 :: (zs++xs),ss,b :: bs,hp :: hps⟩;have hle:Z.le Zo:=by
    obtain⟨a1,a2,a3,a4⟩:=Z;simp only at hints hblk hobj hstr;subst hints hblk hobj hstr;refine⟨fun {x z} q=>?_,fun {x z} q=>by simp at q,fun {x z} q=>?_,fun {x z} q=>?_⟩
    .show(0 :: (zs++xs))[x]?=some z;cases x with
     |zero=>exact q
     |succ x=>
      have q:zs[x]?=some z:=by simpa using q
      show(zs++xs)[x]?=some z;rw[aG,if_pos (ai.1 q).1];exact q
    .cases x with
     |zero=>exact q
     |succ x=>simp at q
    .cases x with
     |zero=>exact q
     |succ x=>simp at q
   have hle':NV.le ⟨0 :: (zs++xs),ss,b :: bs,[]⟩ Zo:=⟨id,id,id,fun q=>by simp at q⟩;have ent:∀ U s ao,(gq 1 p.mem T.leaf).get U=some (s,ao)->∃ i bb hpi,s=1+i/\p.mem[i]?=some (U,ao)/\(b :: bs)[U]?=some bb/\hps[i]?=some hpi/\AOR (Th B inv) Zo ao bb hpi:=fun U s ao q=>by
    rcases gK q with⟨i,i1,i2⟩|⟨_,i2⟩;·obtain⟨bb,hpi,w1,w2,w3⟩:=g6 i U ao i1;exact⟨i,bb,hpi,i2,i1,w1,w2,(w3.imp fun _ _ _ _ q=>⟨m,q⟩).mono hle'⟩
    .rw[T.eR] at i2;cases i2
   refine⟨.tuple [],h,⟨rfl,rfl⟩,⟨p.ni,p.ns,p.nb,.tp [],p.mem,p.fs⟩,by subst hcn;exact aJ.2 ⟨p,hpm,rfl⟩,Zo,hle,?_,fun g hg=>?_,.tp .nil⟩
   .have hno:∀ i,Zo.objs[1+i]?=hps[i]?:=fun i=>by
     show(hp :: hps)[1+i]?=_;rw[bp];rfl
    refine⟨⟨?_,?_,?_,?_,rfl,?_⟩,rfl,pZ (.tp .nil),⟨fun U s ao q=>?_,fun U s ao E s' ao' q q' hne hp1 hp2 e1 e2=>?_,hM.hr.frame,hM.hr.le,hM.hr.gl⟩,BN⟩;·subst hcn;show(0 :: (zs++xs)).length=(1+(inv τ).1)+p.ni;simp[g1];omega
    .subst hcn;show ss.length=0+p.ns;omega
    .subst hcn;show(b :: bs).length=1+p.nb;simp[g3];omega
    .subst hcn;show(hp :: hps).length=1+p.mem.length;simp[g4];omega
    .refine kg nZ fun g hg=>?_;obtain⟨x,y,w1,w2,w3⟩:=g5 g hg;exact⟨x,y,w1.mono hle',w2.mono hle',w3⟩
    .obtain⟨i,bb,hpi,w1,w2,w3,w4,w5⟩:=ent U s ao (by subst hcn;exact q);subst w1;refine⟨bb,hpi,w3,(hno i).trans w4,w5,fun z hz=>x4 z ?_⟩;rw[g7];exact ct.2 ⟨hpi,aC w4,hz⟩
    .obtain⟨i,bb,hpi,w1,w2,w3,w4,w5⟩:=ent U s ao (by subst hcn;exact q);obtain⟨j,bb',hpj,u1,u2,u3,u4,u5⟩:=ent E s' ao' (by subst hcn;exact q');subst w1 u1;have e1:=(hno i).symm.trans e1;have e2:=(hno j).symm.trans e2;refine qX (by rw[<- g7];exact y4) e1 e2 fun e=>?_;subst e;rw[w2] at u2;cases u2;exact hne rfl
   .obtain⟨x,y,w1,w2,w3⟩:=g5 g hg;exact⟨x,y,w1.mono hle',w2.mono hle',w3⟩
theorem IP {p:PT}(hp:p∈(inv τ).2){a0:AO}{l0:List (Nat×AO)}(h0:p.mem=(0,a0) :: l0)(hap:apart (p.mem.map Prod.fst)=true)(hno0:p.mem.all (fun q=>noO q.2)=true):Ku ghR (Th B inv) ⟨Nat.add (inv τ).1 p.ni,p.ns,Nat.succ p.nb,[.p 0 oz],p.mem,p.fs,[⟨0,0,0,.tp [],[(0,.ob τ (news (fun j=>(j,0)) 1 (inv τ).1))],[]⟩]⟩:=fun Z vs h n hl hfs hM=>by
 generalize hcn:(⟨Nat.add (inv τ).1 p.ni,p.ns,Nat.succ p.nb,[.p 0 oz],p.mem,p.fs,[⟨0,0,0,.tp [],[(0,.ob τ (news (fun j=>(j,0)) 1 (inv τ).1))],[]⟩]⟩:CN)=cn at hM hl hfs ⊢;have hfs:∀ g,g∈p.fs->Holds Z g:=by subst hcn;exact hfs
 have li:Z.ints.length=1+((inv τ).1+p.ni):=by have:=hM.vr.ni;subst hcn;exact this
 have ls:Z.strs.length=p.ns:=by have:=hM.vr.ns;subst hcn;rw[this];exact aI _
 have lb:Z.blks.length=p.nb+1:=by have:=hM.vr.nb;subst hcn;rw[this];exact aI _
 have lo:Z.objs.length=p.mem.length:=by have:=hM.vr.no;subst hcn;rw[this];exact aI _
 have z0:=hM.vr.z0;have hnd:=wF hap;have hget:∀ {i U:Nat} {ao:AO},p.mem[i]?=some (U,ao)->(fA cn n).mem.get U=some (i,ao):=fun {i U ao} q=>by subst hcn;show(gq 0 p.mem T.leaf).get U=_;rw[kH hnd q,aI]
 have ent:∀ (i U:Nat) (ao:AO),p.mem[i]?=some (U,ao)->∃ bb hpi,Z.blks[U]?=some bb/\Z.objs[i]?=some hpi/\AOR (Th B inv) Z ao bb hpi/\∀ z,z∈hpi->h.tr.get z.1=some z.2/\z.1<h.next/\((lB Z (fA cn n).mem h).F z.1\/(lB Z (fA cn n).mem h).n<=z.1):=fun i U ao q=>hM.hr.at' _ _ _ (hget q);obtain⟨b,hp0,x1,x2,x3,x4⟩:=ent 0 0 a0 (by rw[h0];rfl);obtain⟨o0,r0,e0⟩:=x3.root;have hZ:∃ zs xs bs,zs.length=(inv τ).1/\xs.length=p.ni/\bs.length=p.nb/\Z.ints=0 :: (zs++xs)/\Z.blks=b :: bs:=by
  obtain⟨a1,a2,a3,a4⟩:=Z;simp only at li lb x1 z0;cases a1 with
  |nil=>simp at z0
  |cons y a1=>
   simp at z0;subst z0;cases a3 with
   |nil=>simp at x1
   |cons c a3=>
    simp at x1;subst x1;refine⟨a1.take (inv τ).1,a1.drop (inv τ).1,a3,?_,?_,by simpa using lb,by rw[List.take_append_drop],rfl⟩;·simp at li;simp;omega
    .simp at li;simp;omega
 obtain⟨zs,xs,bs,k1,k2,k3,k4,k5⟩:=hZ;have hle:Z.le ⟨0 :: (zs++xs),Z.strs,b :: bs,Z.objs⟩:=⟨fun q=>by rw[<- k4];exact q,id,fun q=>by rw[<- k5];exact q,id⟩;have sw:∀ {ao:AO} {bb:Nat} {hpi:List (Nat×O)} {M:TH},noO ao=true->AOR M Z ao bb hpi->AOR M ⟨0 :: (zs++xs),Z.strs,b :: bs,[]⟩ ao bb hpi:=fun {ao bb hpi M} hn q=>by have hs:NV.sub Z ⟨0 :: (zs++xs),Z.strs,b :: bs,[]⟩:=⟨fun {x z} q=>by rw[k4] at q;exact q,fun q=>q,fun {x z} q=>by rw[k5] at q;exact q⟩;exact q.sub hs hn
 have hh:∀ g,g∈p.fs->Holds ⟨0 :: (zs++xs),Z.strs,b :: bs,[]⟩ g:=fun g hg=>by obtain⟨x,y,⟨u,u1,u2⟩,⟨w,w1,w2⟩,w3⟩:=hfs g hg;exact⟨x,y,⟨u,by rw[k4] at u1;exact u1,u2⟩,⟨w,by rw[k4] at w1;exact w1,w2⟩,w3⟩
 have hno:∀ (i:Nat) (a:List (Nat×O)),Z.objs[i]?=some a->∃ U ao,p.mem[i]?=some (U,ao):=fun i a q=>by
  have:=(ai.1 q).1;have:i<p.mem.length:=by omega
  exact⟨_,_,ah this⟩
 have fnd:(Z.objs.flatten.map Prod.fst).Nodup:=by
  refine pc (fun i a q=>?_) fun i j a c q1 q2 hne=>?_;·obtain⟨U,ao,w⟩:=hno i a q;obtain⟨bb,hpi,_,y2,y3,_⟩:=ent i U ao w;rw[q] at y2;cases y2;exact y3.nodup
  .obtain⟨U,ao,w⟩:=hno i a q1;obtain⟨E,ao',w'⟩:=hno j c q2;refine hM.hr.sep _ _ _ _ _ _ (hget w) (hget w') (fun e=>hne ?_) a c q1 q2;subst e;have e1:(p.mem.map Prod.fst)[i]?=some U:=by rw[aL,w];rfl
   have e2:(p.mem.map Prod.fst)[j]?=some U:=by rw[aL,w'];rfl
   exact(List.getElem?_inj (ai.1 e1).1 hnd).1 (e1.trans e2.symm)
 obtain⟨N,hN⟩:=xC (Q:=fun i m=>∀ U ao,p.mem[i]?=some (U,ao)->∃ bb hpi,Z.blks[U]?=some bb/\Z.objs[i]?=some hpi/\AOR (ThN B inv m) Z ao bb hpi) (fun i n m hnm q U ao w=>let ⟨bb,hpi,a,b,c⟩:=q U ao w;⟨bb,hpi,a,b,c.imp fun _ _ _ _ q=>q.le hnm⟩) p.mem.length fun i hi=>by obtain⟨bb,hpi,y1,y2,y3,_⟩:=ent i (p.mem[i]).1 (p.mem[i]).2 (ah hi);obtain⟨m,y3⟩:=y3.lvl;refine⟨m,fun U ao w=>?_⟩;rw[ah hi] at w;have w:=bP w;rw[w] at y1 y3;exact⟨bb,hpi,y1,y2,y3⟩
 have hTh:Th B inv τ zs b Z.objs.flatten:=by refine⟨N+1,k1,.inr ⟨p,hp,xs,Z.strs,bs,Z.objs,k2,ls,k3,lo,hh,fun i U ao w=>?_,rfl⟩⟩;obtain⟨bb,hpi,y1,y2,y3⟩:=hN i (ai.1 w).1 U ao w;exact⟨bb,hpi,by rw[<- k5];exact y1,y2,sw (bz.1 hno0 _ (aC w)) y3⟩
 have hroot:∃ o r,Z.objs.flatten=(b,o) :: r:=by
  obtain⟨a1,a2,a3,a4⟩:=Z;simp only at x2;cases a4 with
  |nil=>simp at x2
  |cons y a4=>simp at x2;subst x2;exact⟨o0,r0++a4.flatten,by rw[dW,e0];rfl⟩
 let Zo:NV:={ Z with objs:=Z.objs++[Z.objs.flatten] };have hleo:Z.le Zo:=lG;have hob:AOR (Th B inv) Zo (.ob τ (news (fun j=>(j,0)) 1 (inv τ).1)) b Z.objs.flatten:=.ob (xD k1 fun j z q=>by show Z.ints[1+j]?=some z;rw[k4,bp];show(zs++xs)[j]?=some z;rw[aG,if_pos (ai.1 q).1];exact q) hTh hroot fnd;refine⟨.tuple [],h,⟨rfl,rfl⟩,_,by subst hcn;exact aE ..,Zo,hleo,?_,fun g hg=>by simp at hg,.tp .nil⟩;have hmem:∀ U s ao,(gq p.mem.length [(0,AO.ob τ (news (fun j=>(j,0)) 1 (inv τ).1))] T.leaf).get U=some (s,ao)->U=0/\s=p.mem.length/\ao=.ob τ (news (fun j=>(j,0)) 1 (inv τ).1):=fun U s ao q=>by
  simp only[gq,T.eL] at q;split at q;·cases q;exact⟨by assumption,rfl,rfl⟩
  .rw[T.eR] at q;cases q
 have hlast:Zo.objs[p.mem.length]?=some Z.objs.flatten:=by show(Z.objs++[Z.objs.flatten])[p.mem.length]?=_;rw[<- lo];simp
 refine⟨⟨?_,?_,?_,?_,hleo.i z0,nZ⟩,rfl,pZ (.tp .nil),⟨fun U s ao q=>?_,fun U s ao E s' ao' q q' hne=>?_,hM.hr.frame,hM.hr.le,hM.hr.gl⟩,BN⟩;·subst hcn;show Z.ints.length=(1+((inv τ).1+p.ni))+0;omega
 .subst hcn;show Z.strs.length=p.ns+0;omega
 .subst hcn;show Z.blks.length=(p.nb+1)+0;omega
 .subst hcn;show(Z.objs++[Z.objs.flatten]).length=p.mem.length+1;simp[lo]
 .obtain⟨rfl,rfl,rfl⟩:=hmem U s ao (by subst hcn;exact q);refine⟨b,_,x1,hlast,hob,fun z hz=>?_⟩;obtain⟨y,y1,y2⟩:=ct.1 hz;obtain⟨i,hi⟩:=aX.1 y1;obtain⟨U,ao,w⟩:=hno i y hi;obtain⟨bb,hpi,_,u2,_,u4⟩:=ent i U ao w;rw[hi] at u2;cases u2;exact u4 z y2
 .obtain⟨rfl,_,_⟩:=hmem U s ao (by subst hcn;exact q);obtain⟨rfl,_,_⟩:=hmem E s' ao' (by subst hcn;exact q');exact absurd rfl hne
section
variable {fr:FR}{B:TH}{inv:Nat->Nat×List PT}
theorem ON {g:GH}{cn:CN}(h:ghC inv g=some cn):Ku ghR (Th B inv) cn:=by
 unfold ghC at h;simp only at h;split at h
 .split at h;·cases h
  .rename_i hq;cases h;exact L8 (by rw[hq];exact List.cons_ne_nil _ _)
 .split at h;case h_2=>cases h
  rename_i p hp;split at h;case h_2=>cases h
  rename_i a0 l0 h0;split at h;case h_2=>cases h
  rename_i hap;simp only[ae] at hap;cases h;have hm:∀ {l:List PT} {n:Nat},nth l n=some p->p∈l:=fun {l}=>by
   induction l with
   |nil=>intro n h;cases n<;>cases h
   |cons x l ih=>
    intro n h;cases n with
    |zero=>cases h;exact aE ..
    |succ n=>exact aB _ (ih h)
  exact IP (hm hp) h0 hap.1 hap.2
theorem Mem.split {M:TH}{Z:NV}{J:AS}{st:St}(hM:Mem M fr Z J st){U s b b2:Nat}{ao ao1 ao2:AO}{hp hp1 hp2:List (Nat×O)}(hb:J.mem.get U=some (s,ao))(h1:Z.blks[U]?=some b)(h2:Z.objs[s]?=some hp)(s1:∀ p,p∈hp1->p∈hp)(s2:∀ p,p∈hp2->p∈hp)(dis:∀ p,p∈hp1->∀ q,q∈hp2->p.1≠q.1)
  (A:∀ Z',Z.le Z'->Z'.blks[J.nb]?=some b2->AOR M Z' ao1 b hp1/\AOR M Z' ao2 b2 hp2):∃ Z',Z.le Z'/\Mem M fr Z' ((J.gG U ao1).add ao2) st:=by
 have hle:Z.le { Z with objs:=Z.objs++[hp1,hp2],blks:=Z.blks++[b2] }:=NV.le.trans (b:={ Z with objs:=Z.objs++[hp1,hp2] }) lG (BO (Z:={ Z with objs:=Z.objs++[hp1,hp2] }));have ho1:(Z.objs++[hp1,hp2])[J.no]?=some hp1:=by rw[<- hM.vr.no];simp
 have ho2:(Z.objs++[hp1,hp2])[Nat.succ J.no]?=some hp2:=by rw[<- hM.vr.no,aG,if_neg (by omega)];rw[show Nat.succ Z.objs.length - Z.objs.length=1 by omega];rfl
 have hbl:(Z.blks++[b2])[J.nb]?=some b2:=by rw[<- hM.vr.nb];simp
 obtain⟨A1,A2⟩:=A _ hle hbl;obtain⟨b',hp',x1,x2,x3,x4⟩:=hM.hr.at' _ _ _ hb;rw[h1] at x1;cases x1;rw[h2] at x2;cases x2;have hnb:U≠J.nb:=fun e=>by have:=(ai.1 h1).1;rw[hM.vr.nb] at this;omega
 have got:∀ E s' a,((J.gG U ao1).add ao2).mem.get E=some (s',a)->(E=J.nb/\s'=Nat.succ J.no/\a=ao2)\/(E=U/\s'=J.no/\a=ao1)\/(E≠U/\J.mem.get E=some (s',a)):=fun E s' a q=>by
  simp only[AS.add,AS.gG,T.eL] at q;split at q;·cases q;exact .inl ⟨by assumption,rfl,rfl⟩
  .split at q;·cases q;exact .inr (.inl ⟨by assumption,rfl,rfl⟩)
   .exact .inr (.inr ⟨by assumption,q⟩)
 have mk:∀ p,p∈hp->p.1∈hp.map Prod.fst:=fun p h=>aJ.2 ⟨p,h,rfl⟩;have other:∀ E s' a,J.mem.get E=some (s',a)->E≠U->∀ hq,Z.objs[s']?=some hq->∀ p,p∈hq->p.1∉hp.map Prod.fst:=fun E s' a q hne hq e p h3 h4=>by obtain⟨r,r1,r2⟩:=aJ.1 h4;exact hM.hr.sep _ _ _ _ _ _ q hb hne _ _ e h2 p h3 r r1 r2.symm
 have sep1:∀ E s' a hq,J.mem.get E=some (s',a)->E≠U->(Z.objs++[hp1,hp2])[s']?=some hq->∀ p,p∈hq->∀ q,q∈hp->p.1≠q.1:=fun E s' a hq h3 h4 h5 p h6 q h7 e=>by obtain⟨c,hq',y1,y2,_,_⟩:=hM.hr.at' _ _ _ h3;have y3:=hle.o y2;rw[show(Z.objs++[hp1,hp2])[s']?=some hq' from y3] at h5;cases h5;exact other E s' a h3 h4 _ y2 p h6 (by rw[e];exact mk q h7)
 refine⟨_,hle,hM.gen (h':=st.h) (D:=fun x=>x∈hp.map Prod.fst) ⟨hM.vr.ni,hM.vr.ns,by show(Z.blks++[b2]).length=J.nb+1;simp[hM.vr.nb],by show(Z.objs++[hp1,hp2]).length=J.no+1+1;simp[hM.vr.no],hle.i hM.vr.z0,hM.vr.zr.mono hle⟩ hle rfl rfl (aF _) (fun x hx=>by obtain⟨p,p1,rfl⟩:=aJ.1 hx;exact⟨U,s,ao,hp,p.2,hb,h2,p1⟩) (fun _ _ _=>rfl) (fun E s' a q=>?_) fun E s3 a3 E' s4 a4 q1 q2 hne n1 n2=>?_⟩
 .rcases got _ _ _ q with⟨rfl,rfl,rfl⟩|⟨rfl,rfl,rfl⟩|⟨w1,w2⟩;·exact .inr ⟨b2,hp2,hbl,ho2,A2,fun p hp'=>⟨(x4 p (s2 p hp')).1,(x4 p (s2 p hp')).2.1,.inl (mk p (s2 p hp'))⟩⟩
  .exact .inr ⟨b,hp1,hle.b h1,ho1,A1,fun p hp'=>⟨(x4 p (s1 p hp')).1,(x4 p (s1 p hp')).2.1,.inl (mk p (s1 p hp'))⟩⟩
  .exact .inl ⟨w2,other E s' a w2 w1⟩
 .intro ha hc e1 e2 p p1 q q1';have e1:(Z.objs++[hp1,hp2])[s3]?=some ha:=e1;have e2:(Z.objs++[hp1,hp2])[s4]?=some hc:=e2;rcases got _ _ _ q1 with⟨rfl,rfl,rfl⟩|⟨rfl,rfl,rfl⟩|⟨w1,w2⟩
  .rw[ho2] at e1;cases e1;rcases got _ _ _ q2 with⟨rfl,rfl,rfl⟩|⟨rfl,rfl,rfl⟩|⟨u1,u2⟩
   .exact absurd rfl hne
   .rw[ho1] at e2;cases e2;exact fun e=>dis q q1' p p1 e.symm
   .exact fun e=>sep1 _ _ _ _ u2 u1 e2 q q1' p (s2 p p1) e.symm
  .rw[ho1] at e1;cases e1;rcases got _ _ _ q2 with⟨rfl,rfl,rfl⟩|⟨rfl,rfl,rfl⟩|⟨u1,u2⟩
   .rw[ho2] at e2;cases e2;exact dis p p1 q q1'
   .exact absurd rfl hne
   .exact fun e=>sep1 _ _ _ _ u2 u1 e2 q q1' p (s1 p p1) e.symm
  .rcases got _ _ _ q2 with⟨rfl,rfl,rfl⟩|⟨rfl,rfl,rfl⟩|⟨u1,u2⟩;·rw[ho2] at e2;cases e2;exact sep1 _ _ _ _ w2 w1 e1 p p1 q (s2 q q1')
   .rw[ho1] at e2;cases e2;exact sep1 _ _ _ _ w2 w1 e1 p p1 q (s1 q q1')
   .obtain⟨c,hq,y1,y2,_,_⟩:=hM.hr.at' _ _ _ w2;obtain⟨c',hq',z1,z2,_,_⟩:=hM.hr.at' _ _ _ u2;rw[show(Z.objs++[hp1,hp2])[s3]?=some hq from hle.o y2] at e1;cases e1;rw[show(Z.objs++[hp1,hp2])[s4]?=some hq' from hle.o z2] at e2;cases e2;exact hM.hr.sep _ _ _ _ _ _ w2 u2 hne _ _ y2 z2 p p1 q q1'
theorem Mem.Uq (hM:Mem M fr Z J st){E0 s b2:Nat}{ao1 ao2:AO}{hp1 hp2:List (Nat×O)}(hb:J.mem.get U=some (s,ao))(hg:J.mem.get E0=none)(hE:Z.blks[E0]?=some b2)(h1:Z.blks[U]?=some b)(h2:Z.objs[s]?=some hp)(s1:∀ p,p∈hp1->p∈hp)(s2:∀ p,p∈hp2->p∈hp)(dis:∀ p,p∈hp1->∀ q,q∈hp2->p.1≠q.1)
  (A:∀ Z',Z.le Z'->AOR M Z' ao1 b hp1/\AOR M Z' ao2 b2 hp2):∃ Z',Z.le Z'/\Mem M fr Z' (spl U E0 ao1 ao2 J) st:=by
 have hle:Z.le { Z with objs:=Z.objs++[hp1,hp2] }:=lG;have ho1:(Z.objs++[hp1,hp2])[J.no]?=some hp1:=by rw[<- hM.vr.no];simp
 have ho2:(Z.objs++[hp1,hp2])[Nat.succ J.no]?=some hp2:=by rw[<- hM.vr.no,aG,if_neg (by omega)];rw[show Nat.succ Z.objs.length - Z.objs.length=1 by omega];rfl
 obtain⟨A1,A2⟩:=A _ hle;obtain⟨b',hp',x1,x2,x3,x4⟩:=hM.hr.at' _ _ _ hb;rw[h1] at x1;cases x1;rw[h2] at x2;cases x2;have hnb:U≠E0:=fun e=>by rw[e,hg] at hb;cases hb
 have got:∀ E s' a,(spl U E0 ao1 ao2 J).mem.get E=some (s',a)->(E=E0/\s'=Nat.succ J.no/\a=ao2)\/(E=U/\s'=J.no/\a=ao1)\/(E≠U/\J.mem.get E=some (s',a)):=fun E s' a q=>by
  simp only[spl,T.eL] at q;split at q;·cases q;exact .inl ⟨by assumption,rfl,rfl⟩
  .split at q;·cases q;exact .inr (.inl ⟨by assumption,rfl,rfl⟩)
   .exact .inr (.inr ⟨by assumption,q⟩)
 have mk:∀ p,p∈hp->p.1∈hp.map Prod.fst:=fun p h=>aJ.2 ⟨p,h,rfl⟩;have other:∀ E s' a,J.mem.get E=some (s',a)->E≠U->∀ hq,Z.objs[s']?=some hq->∀ p,p∈hq->p.1∉hp.map Prod.fst:=fun E s' a q hne hq e p h3 h4=>by obtain⟨r,r1,r2⟩:=aJ.1 h4;exact hM.hr.sep _ _ _ _ _ _ q hb hne _ _ e h2 p h3 r r1 r2.symm
 have sep1:∀ E s' a hq,J.mem.get E=some (s',a)->E≠U->(Z.objs++[hp1,hp2])[s']?=some hq->∀ p,p∈hq->∀ q,q∈hp->p.1≠q.1:=fun E s' a hq h3 h4 h5 p h6 q h7 e=>by obtain⟨c,hq',y1,y2,_,_⟩:=hM.hr.at' _ _ _ h3;have y3:=hle.o y2;rw[show(Z.objs++[hp1,hp2])[s']?=some hq' from y3] at h5;cases h5;exact other E s' a h3 h4 _ y2 p h6 (by rw[e];exact mk q h7)
 refine⟨_,hle,hM.gen (h':=st.h) (D:=fun x=>x∈hp.map Prod.fst) ⟨hM.vr.ni,hM.vr.ns,hM.vr.nb,by show(Z.objs++[hp1,hp2]).length=J.no+1+1;simp[hM.vr.no],hle.i hM.vr.z0,hM.vr.zr.mono hle⟩ hle rfl rfl (aF _) (fun x hx=>by obtain⟨p,p1,rfl⟩:=aJ.1 hx;exact⟨U,s,ao,hp,p.2,hb,h2,p1⟩) (fun _ _ _=>rfl) (fun E s' a q=>?_) fun E s3 a3 E' s4 a4 q1 q2 hne n1 n2=>?_⟩
 .rcases got _ _ _ q with⟨rfl,rfl,rfl⟩|⟨rfl,rfl,rfl⟩|⟨w1,w2⟩;·exact .inr ⟨b2,hp2,hle.b hE,ho2,A2,fun p hp'=>⟨(x4 p (s2 p hp')).1,(x4 p (s2 p hp')).2.1,.inl (mk p (s2 p hp'))⟩⟩
  .exact .inr ⟨b,hp1,hle.b h1,ho1,A1,fun p hp'=>⟨(x4 p (s1 p hp')).1,(x4 p (s1 p hp')).2.1,.inl (mk p (s1 p hp'))⟩⟩
  .exact .inl ⟨w2,other E s' a w2 w1⟩
 .intro ha hc e1 e2 p p1 q q1';have e1:(Z.objs++[hp1,hp2])[s3]?=some ha:=e1;have e2:(Z.objs++[hp1,hp2])[s4]?=some hc:=e2;rcases got _ _ _ q1 with⟨rfl,rfl,rfl⟩|⟨rfl,rfl,rfl⟩|⟨w1,w2⟩
  .rw[ho2] at e1;cases e1;rcases got _ _ _ q2 with⟨rfl,rfl,rfl⟩|⟨rfl,rfl,rfl⟩|⟨u1,u2⟩
   .exact absurd rfl hne
   .rw[ho1] at e2;cases e2;exact fun e=>dis q q1' p p1 e.symm
   .exact fun e=>sep1 _ _ _ _ u2 u1 e2 q q1' p (s2 p p1) e.symm
  .rw[ho1] at e1;cases e1;rcases got _ _ _ q2 with⟨rfl,rfl,rfl⟩|⟨rfl,rfl,rfl⟩|⟨u1,u2⟩
   .rw[ho2] at e2;cases e2;exact dis p p1 q q1'
   .exact absurd rfl hne
   .exact fun e=>sep1 _ _ _ _ u2 u1 e2 q q1' p (s1 p p1) e.symm
  .rcases got _ _ _ q2 with⟨rfl,rfl,rfl⟩|⟨rfl,rfl,rfl⟩|⟨u1,u2⟩;·rw[ho2] at e2;cases e2;exact sep1 _ _ _ _ w2 w1 e1 p p1 q (s2 q q1')
   .rw[ho1] at e2;cases e2;exact sep1 _ _ _ _ w2 w1 e1 p p1 q (s1 q q1')
   .obtain⟨c,hq,y1,y2,_,_⟩:=hM.hr.at' _ _ _ w2;obtain⟨c',hq',z1,z2,_,_⟩:=hM.hr.at' _ _ _ u2;rw[show(Z.objs++[hp1,hp2])[s3]?=some hq from hle.o y2] at e1;cases e1;rw[show(Z.objs++[hp1,hp2])[s4]?=some hq' from hle.o z2] at e2;cases e2;exact hM.hr.sep _ _ _ _ _ _ w2 u2 hne _ _ y2 z2 p p1 q q1'
theorem Mem.join (hM:Mem M fr Z J st){E s sg:Nat}{ag ao1:AO}{hg hp1:List (Nat×O)}(hb:J.mem.get U=some (s,ao))(hE:J.mem.get E=some (sg,ag))(h1:Z.blks[U]?=some b)(h2:Z.objs[s]?=some hp)(h3:Z.objs[sg]?=some hg)(s1:∀ p,p∈hp1->p∈hp\/p∈hg)(A:AOR M Z ao1 b hp1):∃ Z',Z.le Z'/\Mem M fr Z' ((J.gG U ao1).del E) st:=by
 have hle:Z.le { Z with objs:=Z.objs++[hp1] }:=lG;have ho1:(Z.objs++[hp1])[J.no]?=some hp1:=by rw[<- hM.vr.no];simp
 have bl:∀ p,p∈hp\/p∈hg->st.h.tr.get p.1=some p.2/\p.1<st.h.next:=fun p h=>by
  rcases h with h|h;·obtain⟨b',hp',x1,x2,x3,x4⟩:=hM.hr.at' _ _ _ hb;rw[h2] at x2;cases x2;exact⟨(x4 p h).1,(x4 p h).2.1⟩
  .obtain⟨b',hp',x1,x2,x3,x4⟩:=hM.hr.at' _ _ _ hE;rw[h3] at x2;cases x2;exact⟨(x4 p h).1,(x4 p h).2.1⟩
 have got:∀ δ s' a,((J.gG U ao1).del E).mem.get δ=some (s',a)->(δ=U/\s'=J.no/\a=ao1)\/(δ≠U/\δ≠E/\J.mem.get δ=some (s',a)):=fun δ s' a q=>by
  simp only[AS.del,AS.gG,T.eL] at q;split at q;·cases q
  .split at q;·cases q;exact .inl ⟨by assumption,rfl,rfl⟩
   .exact .inr ⟨by assumption,by assumption,q⟩
 have other:∀ δ s' a hq,J.mem.get δ=some (s',a)->δ≠U->δ≠E->Z.objs[s']?=some hq->∀ p,p∈hq->∀ q,q∈hp\/q∈hg->p.1≠q.1:=fun δ s' a hq h4 h5 h6 h7 p h8 q h9=>by
  rcases h9 with h9|h9;·exact hM.hr.sep _ _ _ _ _ _ h4 hb h5 _ _ h7 h2 p h8 q h9
  .exact hM.hr.sep _ _ _ _ _ _ h4 hE h6 _ _ h7 h3 p h8 q h9
 have sep1:∀ δ s' a hq,J.mem.get δ=some (s',a)->δ≠U->δ≠E->(Z.objs++[hp1])[s']?=some hq->∀ p,p∈hq->∀ q,q∈hp1->p.1≠q.1:=fun δ s' a hq h4 h5 h6 h7 p h8 q h9=>by obtain⟨c,hq',y1,y2,_,_⟩:=hM.hr.at' _ _ _ h4;rw[show(Z.objs++[hp1])[s']?=some hq' from hle.o y2] at h7;cases h7;exact other _ _ _ _ h4 h5 h6 y2 p h8 q (s1 q h9)
 refine⟨_,hle,hM.gen (h':=st.h) (D:=fun x=>∃ p,(p∈hp\/p∈hg)/\p.1=x) ⟨hM.vr.ni,hM.vr.ns,hM.vr.nb,by show(Z.objs++[hp1]).length=J.no+1;simp[hM.vr.no],hle.i hM.vr.z0,hM.vr.zr.mono hle⟩ hle rfl rfl (aF _) (fun x hx=>by
  obtain⟨p,p1,rfl⟩:=hx;rcases p1 with p1|p1;·exact⟨U,s,ao,hp,p.2,hb,h2,p1⟩
  .exact⟨E,sg,ag,hg,p.2,hE,h3,p1⟩) (fun _ _ _=>rfl) (fun δ s' a q=>?_) fun δ s3 a3 δ' s4 a4 q1 q2 hne n1 n2=>?_⟩
 .rcases got _ _ _ q with⟨rfl,rfl,rfl⟩|⟨w1,w2,w3⟩;·exact .inr ⟨b,hp1,h1,ho1,A.mono hle,fun p hp'=>⟨(bl p (s1 p hp')).1,(bl p (s1 p hp')).2,.inl ⟨p,s1 p hp',rfl⟩⟩⟩
  .exact .inl ⟨w3,fun hq e p hp' ⟨r,r1,r2⟩=>other _ _ _ _ w3 w1 w2 e p hp' r r1 r2.symm⟩
 .intro ha hc e1 e2 p p1 q q1';have e1:(Z.objs++[hp1])[s3]?=some ha:=e1;have e2:(Z.objs++[hp1])[s4]?=some hc:=e2;rcases got _ _ _ q1 with⟨rfl,rfl,rfl⟩|⟨w1,w2,w3⟩
  .rw[ho1] at e1;cases e1;rcases got _ _ _ q2 with⟨rfl,rfl,rfl⟩|⟨u1,u2,u3⟩
   .exact absurd rfl hne
   .exact fun e=>sep1 _ _ _ _ u3 u1 u2 e2 q q1' p p1 e.symm
  .rcases got _ _ _ q2 with⟨rfl,rfl,rfl⟩|⟨u1,u2,u3⟩;·rw[ho1] at e2;cases e2;exact sep1 _ _ _ _ w3 w1 w2 e1 p p1 q q1'
   .obtain⟨c,hq,y1,y2,_,_⟩:=hM.hr.at' _ _ _ w3;obtain⟨c',hq',z1,z2,_,_⟩:=hM.hr.at' _ _ _ u3;rw[show(Z.objs++[hp1])[s3]?=some hq from hle.o y2] at e1;cases e1;rw[show(Z.objs++[hp1])[s4]?=some hq' from hle.o z2] at e2;cases e2;exact hM.hr.sep _ _ _ _ _ _ w3 u3 hne _ _ y2 z2 p p1 q q1'
theorem vG {α:Type}:∀ {L:List (List α)} {f:Nat},(L.set f []).flatten.Sublist L.flatten
 |[],_=>.refl _
 |a :: L,0=>by simp
 |a :: L,f+1=>by simp only[List.set_cons_succ,dW];exact List.Sublist.append (.refl a) vG
theorem L9 {e:LE}(h:RN U e J K=true)(hM:Mem M fr Z J st):∃ Z' J',Z.le Z'/\Mem M fr Z' J' st/\K J'=true:=by
 unfold RN at h;split at h;case h_2=>cases h
 rename_i s t te ks B m n hb;split at h;case h_2=>cases h
 rename_i q;simp only[ae] at q h;obtain⟨⟨q1,q2⟩,q3⟩:=q;obtain⟨b,bb,cnt,mm,pat,tr,L,g,hU,x2,hB,hm,hn,rv,nd,x3⟩:=hM.MD hb;have hx:e.1<Z.ints.length:=by rw[hM.vr.ni];exact az q3
 have he:Num Z e (Z.ints[e.1]+e.2):=⟨_,ah hx,rfl⟩;have z1:=eV hM.vr.zr hM.vr.z0 q1 (eO hM.vr.z0 0) he;have z2:=eV hM.vr.zr hM.vr.z0 q2 (he.plus 1) hm;obtain⟨f,hf⟩:∃ f:Nat,Z.ints[e.1]+e.2=(f:Int):=⟨(Z.ints[e.1]+e.2).toNat,by omega⟩;rw[hf] at he z2;have hlt:f<mm:=by omega
 have hg:g=none:=by
  have:=rv.hf;cases g with
  |none=>rfl
  |some _=>exact this.elim
 subst hg;have hfl:f<L.length:=by rw[rv.len];exact hlt
 obtain⟨c,hc⟩:=rv.all f (bh hlt rv.le);have hLf:=ah hfl;have hown:=rv.own f c _ hLf hc (fun q=>nomatch q);obtain⟨_,_,y1,y2,_,y4⟩:=hM.hr.at' _ _ _ hb;rw[hU] at y1;cases y1;rw[x2] at y2;cases y2;have nd2:(L.flatten.map Prod.fst).Nodup:=by simp only[aS,bC] at nd;exact nd.2
 have hbr:∀ p,p∈L.flatten->p.1≠b:=fun p hp e=>by simp only[aS,bC] at nd;exact nd.1 (aJ.2 ⟨p,hp,e⟩)
 rcases hown with⟨rfl,h0⟩|⟨b',len,cap,cnt',nn,pat',tr',rfl,hpe,rw1,k1,k2,k3⟩
 .rw[h0] at hLf;obtain⟨Z',l',m'⟩:=(hM.swap (h':=st.h) (hp':=(b,.cells (some t) cnt pat tr) :: L.flatten) (ao':=.rr t te ks B m n (some (e,.k .nils))) hb hU x2 (aF _) (fun _ _ _=>rfl) fun p hp=>⟨(y4 p hp).1,(y4 p hp).2.1,.inl (aJ.2 ⟨p,hp,rfl⟩)⟩).1 (.rr (g:=some f) hB hm hn ⟨rv.le,rv.all,rv.len,⟨he,hlt⟩,fun i c hp a1 a2 _=>rv.own i c hp a1 a2 (fun q=>nomatch q),fun i c' hp e' a' a1 a2 a3 a4=>by
   cases a4;cases a3;rw[hLf] at a1;cases a1;rw[hc] at a2;cases a2;exact⟨rfl,.k _⟩⟩ nd)
  exact⟨Z',_,l',m',h.1⟩
 .obtain⟨Z1,J1,l,u1,hl,_,_,h⟩:=fM h.2 hM.vr (len:Int) (fun e he=>by
   simp only[aq,aA,or_false] at he;subst he;exact⟨_,eO hM.vr.z0 _,by omega⟩) (fun e he=>by
   simp only[aq,aA,or_false] at he;rcases he with rfl|rfl
   .exact⟨_,hB,by omega⟩
   .exact⟨_,eO hM.vr.z0 _,by omega⟩)
  obtain⟨C,hC1,hC2,hC3⟩:∃ C,len<=C/\C<=cnt'/\(cap=.known C\/cap=.atl C ks.length):=by
   cases cap with
   |known C=>exact⟨C,k3.1,k3.2,.inl rfl⟩
   |atl C es=>exact⟨C,k3.2.1,k3.2.2,.inr (by rw[k3.1])⟩
  obtain⟨Z2,J2,cc,u2,hcc,_,_,h⟩:=fM h u1.vr (C:Int) (fun e he=>by simp only[aq,aA,or_false] at he;subst he;exact⟨_,hl,by omega⟩) (fun e he=>nomatch he);obtain⟨Z3,J3,N,u3,hN,_,_,h⟩:=fM h u2.vr (cnt':Int) (fun e he=>by simp only[aq,aA,or_false] at he;subst he;exact⟨_,hcc,by omega⟩) (fun e he=>nomatch he);simp only[ae] at h;have u:=(u1.trans u2).trans u3;have hM3:=hM.up u;have hb3:J3.mem.get U=some (s,.rr t te ks B m n none):=by rw[u.same.mem];exact hb
  have hl3:Num Z3 l (len:Int):=(hl.mono u2.le).mono u3.le;have hc3:Num Z3 cc (C:Int):=hcc.mono u3.le;have key:∀ ca:BG,(∀ Z',Z3.le Z'->xj Z' ca cap)->K ((J3.gG U (.rr t te ks B m n (some (e,.sl J3.nb oz l ca)))).add (.cl false (some te) [.rw ks N none]))=true->∃ Z' J',Z.le Z'/\Mem M fr Z' J' st/\K J'=true:=fun ca hca hK=>by
   have hmem:∀ p,p∈L[f]->p∈L.flatten:=fun p hp=>ct.2 ⟨_,dA hfl,hp⟩;obtain⟨Z',l',m'⟩:=hM3.split (hp1:=(b,.cells (some t) cnt pat tr) :: (L.set f []).flatten) (hp2:=[(b',.cells (some te) nn pat' tr')]) (b2:=b') (ao1:=.rr t te ks B m n (some (e,.sl J3.nb oz l ca))) (ao2:=.cl false (some te) [.rw ks N none]) hb3 (u.le.b hU) (u.le.o x2) (fun p hp=>by
    rcases aq.1 hp with rfl|hp;·exact aE ..
    .exact aB _ (vG.subset hp)) (fun p hp=>aB _ (hmem p (by rw[hpe];exact hp))) (fun p hp q hq=>by
    have hq':=hmem q (by rw[hpe];exact hq);rcases aq.1 hp with rfl|hp
    .exact fun e=>hbr q hq' e.symm
    .obtain⟨y,w1,w2⟩:=ct.1 hp;obtain⟨i,hi⟩:=aX.1 w1;rw[dX] at hi;split at hi;·cases hi;cases w2
     .rename_i hne;exact qX nd2 hi hLf (fun e=>hne e.symm) p w2 q (by rw[hpe];exact hq)) (fun Z' hle hb'=>by
    have hlZ:=u.le.trans hle;refine⟨.rr (g:=some f) (hB.mono hlZ) (hm.mono hlZ) (hn.mono hlZ) ⟨rv.le,rv.all,by simp[rv.len],⟨he.mono hlZ,hlt⟩,fun i c' hp a1 a2 a3=>?_,fun i c' hp e' a' a1 a2 a3 a4=>?_⟩ ?_,.cl (tS.cr (tS.OP hlZ rw1) (hN.mono hle))⟩;·have hne:i≠f:=fun e=>a3 (by rw[e]);rw[dX,if_neg (fun e=>hne e.symm)] at a1;exact(rv.mono hlZ).own i c' hp a1 a2 (fun q=>nomatch q)
    .cases a4;cases a3;rw[dX,if_pos rfl,if_pos hfl] at a1;cases a1;rw[hc] at a2;cases a2;exact⟨rfl,.sl hb' ⟨0,(fun q=>absurd rfl q),rfl⟩ (hl3.mono hle) (hca Z' hle)⟩
    .simp only[aS,bC] at nd ⊢;exact⟨fun hm=>nd.1 ((vG.map Prod.fst).subset hm),nd.2.sublist (vG.map Prod.fst)⟩)
   exact⟨Z',_,u.le.trans l',m',hK⟩
  rcases hC3 with rfl|rfl;·exact key (.kn cc) (fun Z' hle=>.kn (hc3.mono hle)) h.1
  .exact key (.al cc ks.length) (fun Z' hle=>.al (hc3.mono hle)) h.2
theorem Ma (h:RP U J K=true)(hM:Mem M fr Z J st):∃ Z' J',Z.le Z'/\Mem M fr Z' J' st/\K J'=true:=by
 unfold RP at h;split at h;case h_2=>cases h
 rename_i s t te ks B m n e a hb;obtain⟨b,bb,cnt,mm,pat,tr,L,g,hU,x2,hB,hm,hn,rv,nd,x3⟩:=hM.MD hb;obtain⟨f,rfl,hf,hlt⟩:=rv.FN;obtain⟨e1,c,e2,e3⟩:=rv.told;have hfl:f<L.length:=by rw[rv.len];exact hlt
 obtain⟨_,_,y1,y2,_,y4⟩:=hM.hr.at' _ _ _ hb;rw[hU] at y1;cases y1;rw[x2] at y2;cases y2;have nd2:(L.flatten.map Prod.fst).Nodup:=by simp only[aS,bC] at nd;exact nd.2
 split at h
 .cases e3;obtain⟨Z',l',m'⟩:=(hM.swap (h':=st.h) (hp':=(b,.cells (some t) cnt pat tr) :: L.flatten) (ao':=.rr t te ks B m n none) hb hU x2 (aF _) (fun _ _ _=>rfl) fun p hp=>⟨(y4 p hp).1,(y4 p hp).2.1,.inl (aJ.2 ⟨p,hp,rfl⟩)⟩).1 (.rr (g:=none) hB hm hn ⟨rv.le,rv.all,rv.len,trivial,fun i c' hp a1 a2 _=>by
   by_cases hi:i=f;·subst hi;rw[e1] at a1;cases a1;rw[e2] at a2;cases a2;exact .inl ⟨rfl,rfl⟩
   .exact rv.own i c' hp a1 a2 (fun q=>hi (bP q).symm),fun i c' hp e' a' _ _ w=>nomatch w⟩ nd)
  exact⟨Z',_,l',m',h⟩
 .rename_i E o l cp _;split at h;case h_2=>cases h
  rename_i sg te' cs hE;split at h;case h_2=>cases h
  rename_i r hr;obtain⟨ks',hj,hK⟩:=eU h;split at hK;case h_2=>cases hK
  rename_i q;simp only[ae,T.beq_true] at q;obtain⟨⟨⟨⟨⟨⟨⟨q1,q2⟩,q4⟩,q5⟩,q6⟩,q7⟩,q8⟩,q9⟩:=q;subst q2;have hne:E≠U:=fun e=>by rw[(T.beq_true).2 e] at q1;cases q1
  cases e3 with
  |sl hEb ho hl hcp=>
  rename_i bg off len cap;obtain⟨bg',nn,patg,trg,og,w1,w2,w3,cr,w4⟩:=hM.block hE;rw[hEb] at w1;cases w1;simp only at w3;subst w3;have hoff:off=0:=by obtain⟨w,_,e⟩:=ho;rw[e,q4,q5];omega
  subst hoff;obtain⟨hk,cntg,hN,rvg⟩:=iD hM.vr.zr hM.vr.z0 (ks:=r.1) (N:=r.2) hr cr;obtain⟨j1,j2,j3⟩:=kJ hM.vr.zr hM.vr.z0 hj;have le:=fun {p q:LE} {a b:Int} (h:leQ J.z p q=true) (x:Num Z p a) (y:Num Z q b)=>eV hM.vr.zr hM.vr.z0 h x y;obtain⟨bb',hB',hbb⟩:∃ bb':Nat,Num Z (FM J.z l B) (bb':Int)/\bb<=bb':=by
   unfold FM;split;·exact⟨bb,hB,aF _⟩
   .exact⟨bb+1,by exact_mod_cast hB.plus 1,by omega⟩
  have l1:=le q7 hl hB';have l2:=le q8 hl (eO hM.vr.z0 _);have up:∀ {c:V} {hp:List (Nat×O)},Own Z te ks bb c hp->Own Z te ks' bb' c hp:=fun h=>(h.Rs hbb).map j1 fun i k hk=>by
   have hi:i<ks'.length:=by rw[j1];exact(ai.1 hk).1
   exact⟨_,ah hi,(j3 i _ (ah hi)).1 k hk⟩
  have own:Own Z te ks' bb' (.slice bg 0 len cap) [(bg,.cells (some te) nn patg trg)]:=by
   refine .inr ⟨bg,len,cap,cntg,nn,patg,trg,rfl,rfl,⟨by rw[j2];exact rvg.len,fun i hi=>?_⟩,by omega,by omega,?_⟩
   .obtain⟨c',k,a1,a2,a3⟩:=rvg.at' i hi;have hi2:i % r.1.length<ks'.length:=by rw[j2];exact(ai.1 a2).1
    refine⟨c',_,a1,by rw[j2];exact ah hi2,(j3 _ _ (ah hi2)).2 k a2 c' a3⟩
   .cases hcp with
    |kn hc=>simp only[ae] at q9;have:=le q9.1 hl hc;have:=le q9.2 hc hN;exact⟨by omega,by omega⟩
    |al hc=>simp only[ae,T.beq_true] at q9;have:=le q9.1.2 hl hc;have:=le q9.2 hc hN;exact⟨by rw[q9.1.1,j1],by omega,by omega⟩
  have hset:∀ {i:Nat} {a:List (Nat×O)},(L.set f [(bg,.cells (some te) nn patg trg)])[i]?=some a->(i=f/\a=[(bg,.cells (some te) nn patg trg)])\/(i≠f/\L[i]?=some a):=fun {i a} h=>by
   rw[dX] at h;split at h;·rename_i e;cases h;exact .inl ⟨e.symm,rfl⟩
   .rename_i e;exact .inr ⟨fun q=>e q.symm,h⟩
  have hsep:∀ p,p∈(b,O.cells (some t) cnt pat tr) :: L.flatten->p.1≠bg:=fun p hp=>hM.hr.sep _ _ _ _ _ _ hb hE (fun e=>hne e.symm) _ _ x2 w2 p hp (bg,_) (aE ..);have hbr:∀ p,p∈L.flatten->p.1≠b:=fun p hp e=>by simp only[aS,bC] at nd;exact nd.1 (aJ.2 ⟨p,hp,e⟩)
  have hin:∀ p,p∈(L.set f [(bg,.cells (some te) nn patg trg)]).flatten->p∈L.flatten\/p=(bg,.cells (some te) nn patg trg):=fun p hp=>by
   obtain⟨y,w1,w2⟩:=ct.1 hp;obtain⟨i,hi⟩:=aX.1 w1;rcases hset hi with⟨_,rfl⟩|⟨_,hi⟩;·exact .inr (aj.1 w2)
   .exact .inl (ct.2 ⟨y,aC hi,w2⟩)
  obtain⟨Z',l',m'⟩:=hM.join (hp1:=(b,.cells (some t) cnt pat tr) :: (L.set f [(bg,.cells (some te) nn patg trg)]).flatten) (ao1:=.rr t te ks' (FM J.z l B) m n none) hb hE hU x2 w2 (fun p hp=>by
   rcases aq.1 hp with rfl|hp;·exact .inl (aE ..)
   .rcases hin p hp with h|h;·exact .inl (aB _ h)
    .exact .inr (by rw[h];exact aE ..)) (.rr (g:=none) hB' hm hn ⟨rv.le,rv.all,by simp[rv.len],trivial,fun i c' hp a1 a2 _=>by
   rcases hset a1 with⟨rfl,rfl⟩|⟨hi,a1⟩;·rw[e2] at a2;cases a2;exact own
   .exact up (rv.own i c' hp a1 a2 (fun q=>hi (bP q).symm)),fun i c' hp e' a' _ _ w=>nomatch w⟩ (by
   simp only[aS,bC];refine⟨fun hm=>?_,pc (fun i a ha=>?_) fun i j a c ha hc hij p hp q hq=>?_⟩
   .obtain⟨p,p1,p2⟩:=aJ.1 hm;rcases hin p p1 with h|h;·exact hbr p h p2
    .rw[h] at p2;exact hsep (b,_) (aE ..) p2.symm
   .rcases hset ha with⟨_,rfl⟩|⟨_,ha⟩;·simp
    .have:=nd2;exact this.sublist ((List.sublist_flatten_of_mem (aC ha)).map Prod.fst)
   .have mem:∀ {k:Nat} {y:List (Nat×O)} {z:Nat×O},L[k]?=some y->z∈y->z∈L.flatten:=fun h1 h2=>ct.2 ⟨_,aC h1,h2⟩;rcases hset ha with⟨ei,rfl⟩|⟨hi,ha2⟩
    .rcases hset hc with⟨ej,rfl⟩|⟨hj,hc2⟩;·exact absurd (ei.trans ej.symm) hij
     .rw[aj.1 hp];exact fun e=>hsep q (aB _ (mem hc2 hq)) e.symm
    .rcases hset hc with⟨ej,rfl⟩|⟨hj,hc2⟩;·rw[aj.1 hq];exact hsep p (aB _ (mem ha2 hp))
     .exact qX nd2 ha2 hc2 hij p hp q hq))
  exact⟨Z',_,l',m',hK⟩
 .cases h
theorem Mb {w mx:Nat}(h:RQ U w mx J K=true)(hM:Mem (Th B inv) fr Z J st):∃ Z' J',Z.le Z'/\Mem (Th B inv) fr Z' J' st/\K J'=true:=by
 unfold RQ at h;split at h;case h_2=>cases h
 rename_i s t l hb;split at h;case h_2=>cases h
 rename_i k ks N hr;split at h;case h_2=>cases h
 rename_i q;simp only[ae] at q;obtain⟨b,nn,pat,tr,o,x1,x2,x3,cr,x4⟩:=hM.block hb;simp only at x3;subst x3;obtain⟨hk,cnt,hN,rv⟩:=iD hM.vr.zr hM.vr.z0 hr cr;have hks:ks=[]:=by
  cases ks with
  |nil=>rfl
  |cons=>simp at hk
 subst hks;have hnn:nn=cnt:=by have:=rv.len;simpa using this
 subst hnn;have hle:=eV hM.vr.zr hM.vr.z0 q.2 hN (eO hM.vr.z0 _);have all:∀ i,i<nn->∃ bo,cell nn pat tr i=some (.bool bo):=fun i hi=>by
  obtain⟨c,k',a1,a2,a3⟩:=rv.at' i hi;rw[show i % [k].length=0 from dB _] at a2;cases a2;have q1:=q.1;unfold TX at q1;split at q1;·rename_i e;cases lE hM.vr.z0 hM.vr.zr e a3;exact⟨_,a1⟩
  .cases q1
 have ht:tW nn pat tr<=mx:=bF (rP _) (by simp only[aN] at hle;omega);obtain⟨Z',J',T',u,n1,_,_,hk⟩:=fM (z:=((w * tW nn pat tr:Nat):Int)) h hM.vr (fun e he=>by
  simp only[aq,aA,or_false] at he;subst he;exact⟨_,eO hM.vr.z0 _,da _⟩) (fun e he=>by
  simp only[aq,aA,or_false] at he;subst he;exact⟨_,eO hM.vr.z0 _,Int.ofNat_le.2 (Nat.mul_le_mul_left w ht)⟩)
 exact⟨Z',_,u.le,Mem.jZ (hM.up u) (b:=b) (by rw[u.same.mem];exact hb) (u.le.b x1) (u.le.o x2) (.bc (hN.mono u.le) (by simp only[aN] at hle;omega) (foc:=none) n1 all (fun _ _ e=>by cases e)),hk⟩
theorem Mc (h:RR U J K=true)(hM:Mem (Th B inv) fr Z J st):∃ Z' J',Z.le Z'/\Mem (Th B inv) fr Z' J' st/\K J'=true:=by
 unfold RR at h;split at h;case h_2=>cases h
 rename_i s E ro t tT v n k els hb;split at h;case h_2=>cases h
 rename_i a c ha hc;split at h;case h_2=>cases h
 rename_i q;simp only[ae] at q;obtain⟨b,hp,x1,x2,x3,x4⟩:=hM.hr.at' _ _ _ hb;cases x3 with
 |sp a1 a2 a3 a4 a5 a6 a7 a8=>
  rename_i bT cnt pat patT tr trT f o;obtain⟨kk,k1,k2,k3⟩:=a3.srt;obtain⟨p,p1,p2,rfl⟩:=Am hM.vr.zr hM.vr.z0 ha;obtain⟨p',p1',p2',rfl⟩:=Am hM.vr.zr hM.vr.z0 hc;obtain⟨i,i1,i2,i3⟩:=a3.els p p1;obtain⟨j,j1,j2,j3⟩:=a3.els p' p1';have e1:=jB hM.vr.zr hM.vr.z0 p2 i1 k1;have e2:=jB hM.vr.zr hM.vr.z0 p2' j1 (k1.plus (-1));have e3:=eV hM.vr.zr hM.vr.z0 q.1 j3 i3;have hij:i=j+1:=by omega
  subst hij;refine⟨Z,_,.refl _,Mem.jZ hM hb x1 x2 (.sp a1 a2 ⟨a3.hn,a3.all,⟨kk + -1,k1.plus (-1),fun x y h1 h2 h3=>?_,fun _ _ _=>⟨(fun _ e=>nomatch e),(fun _ e=>nomatch e)⟩⟩,a3.els⟩ a4 a5 a6 a7 a8),h⟩;by_cases hx:(x:Int)=kk + -1
  .have hxj:x=j:=by omega
   subst hxj;by_cases hy:y=x;·subst hy;exact bY _
   .exact Int.le_trans e3 (k2 (x+1) y (by omega) (by omega) h3)
  .exact k2 x y (by omega) h2 h3
theorem OO (h:lkA U J K=true)(hM:Mem (Th B inv) fr Z J st):∃ Z' J',Z.le Z'/\Mem (Th B inv) fr Z' J' st/\K J'=true:=by
 unfold lkA at h;split at h;case h_2=>cases h
 rename_i s E ro t tT v n k els hb;split at h;case h_2=>cases h
 rename_i hg;obtain⟨b,hp,x1,x2,x3,x4⟩:=hM.hr.at' _ _ _ hb;cases x3 with
 |sp a1 a2 a3 a4 a5 a6 a7 a8=>
  rename_i bT cnt pat patT tr trT f o;have go:∀ {ao1 ao2:AO},(∀ Z',Z.le Z'->AOR (Th B inv) Z' ao1 b [(b,.cells t (cnt+1) pat tr)]/\AOR (Th B inv) Z' ao2 bT [(bT,o)])->K (spl U E ao1 ao2 J)=true->∃ Z' J',Z.le Z'/\Mem (Th B inv) fr Z' J' st/\K J'=true:=fun {ao1 ao2} A hK=>by obtain⟨Z',l',m'⟩:=hM.Uq hb hg a1 x1 x2 (fun p hp=>by simp only[aj] at hp;subst hp;simp) (fun p hp=>by simp only[aj] at hp;subst hp;simp) (fun p hp q hq=>by simp only[aj] at hp hq;subst hp hq;exact a8) A;exact⟨Z',_,l',m',hK⟩
  have hsA:∀ {k':LE},(∃ kk,Num Z k' kk/\(∀ i j:Nat,kk<=(i:Int)->i<=j->j<cnt+1->f i<=f j))->AOR (Th B inv) Z (.so false t (plus n 1) k' none none els) b [(b,.cells t (cnt+1) pat tr)]:=fun {k'} ⟨kk,k1,k2⟩=>.so ⟨a3.hn,a3.all,⟨kk,k1,k2,fun _ _ _=>⟨(fun _ e=>nomatch e),(fun _ e=>nomatch e)⟩⟩,a3.els⟩ a5 rfl;obtain⟨kk,k1,k2,k3⟩:=a3.srt;split at h
  .rename_i q;have hk0:=eV hM.vr.zr hM.vr.z0 q k1 (eO hM.vr.z0 0);split at h;case h_2=>cases h
   rename_i w hw;have srt:∀ i j:Nat,i<=j->j<cnt+1->f i<=f j:=fun i j h1 h2=>k2 i j (by omega) h1 h2;refine go (fun Z' hl=>⟨(hsA ⟨0,eO hM.vr.z0 0,fun i j _ h1 h2=>srt i j h1 h2⟩).mono hl,?_⟩) h;refine .so (f:=fun i=>f (i+1)) (cnt:=cnt) ⟨a2.mono hl,fun i hi=>a3.all (i+1) (by omega),⟨0,eO (hl.i hM.vr.z0) 0,fun i j _ h1 h2=>srt (i+1) (j+1) (by omega) (by omega),fun i _ hi=>⟨fun e he=>?_,fun e he=>?_⟩⟩,fun p hp=>nomatch hp⟩ a6 a7;·cases he;obtain⟨p,p1,p2,rfl⟩:=Am hM.vr.zr hM.vr.z0 hw;obtain⟨j,j1,j2,j3⟩:=a3.els p p1;have:=jB hM.vr.zr hM.vr.z0 p2 j1 (eO hM.vr.z0 0);exact⟨_,j3.mono hl,srt j (i+1) (by omega) (by omega)⟩
   .obtain⟨p,p1,p2,rfl⟩:=Am hM.vr.zr hM.vr.z0 he;obtain⟨j,j1,j2,j3⟩:=a3.els p p1;have:=jB hM.vr.zr hM.vr.z0 p2 j1 a2;exact⟨_,j3.mono hl,srt (i+1) j (by omega) j2⟩
  .refine go (fun Z' hl=>⟨(hsA ⟨kk,k1,k2⟩).mono hl,?_⟩) h;have cr:CR Z' [.rw [.int .i64 none none] n none] cnt patT trT:=tS.cr (cnt:=cnt) ⟨by simp,fun i hi=>⟨_,.int .i64 none none,a6 i hi,by simp[dB],.int (a3.all (i+1) (by omega)) (fun _ e=>nomatch e) (fun _ e=>nomatch e)⟩⟩ (a2.mono hl);rw[a7];unfold roO;split;·exact .ro cr
   .exact .cl cr
theorem jn:∀ {l:List GX} {J:AS} {K:AS->Bool},jG inv l J K=true->∀ {Z:NV} {st:St},Mem (Th B inv) fr Z J st->∃ Z' J',Z.le Z'/\Mem (Th B inv) fr Z' J' st/\K J'=true
 |[],J,K,h,Z,st,hM=>⟨Z,J,.refl _,hM,h⟩
 |.foc U e :: l,J,K,h,Z,st,hM=>by simp only[jG] at h;obtain⟨Z1,J1,l1,m1,k1⟩:=L9 h hM;obtain⟨Z2,J2,l2,m2,k2⟩:=jn k1 m1;exact⟨Z2,J2,l1.trans l2,m2,k2⟩
 |.unf U :: l,J,K,h,Z,st,hM=>by simp only[jG] at h;obtain⟨Z1,J1,l1,m1,k1⟩:=Ma h hM;obtain⟨Z2,J2,l2,m2,k2⟩:=jn k1 m1;exact⟨Z2,J2,l1.trans l2,m2,k2⟩
 |.cnt U w mx :: l,J,K,h,Z,st,hM=>by simp only[jG] at h;obtain⟨Z1,J1,l1,m1,k1⟩:=Mb h hM;obtain⟨Z2,J2,l2,m2,k2⟩:=jn k1 m1;exact⟨Z2,J2,l1.trans l2,m2,k2⟩
 |.ext U :: l,J,K,h,Z,st,hM=>by simp only[jG] at h;obtain⟨Z1,J1,l1,m1,k1⟩:=Mc h hM;obtain⟨Z2,J2,l2,m2,k2⟩:=jn k1 m1;exact⟨Z2,J2,l1.trans l2,m2,k2⟩
 |.lk U :: l,J,K,h,Z,st,hM=>by simp only[jG] at h;obtain⟨Z1,J1,l1,m1,k1⟩:=OO h hM;obtain⟨Z2,J2,l2,m2,k2⟩:=jn k1 m1;exact⟨Z2,J2,l1.trans l2,m2,k2⟩
 |.o g :: l,J,K,h,Z,st,hM=>by simp only[jG] at h;obtain⟨⟨s,ao⟩,h1,h⟩:=eU h;obtain⟨cn,h2,h⟩:=eU h;obtain⟨b,hp,x1,_⟩:=hM.hr.at' _ _ _ h1;obtain⟨v,h',⟨_,e⟩,Z1,J1,a,l1,m1,_,k1⟩:=zX h (ON h2) hM (vs:=[.ptr b 0]) (.cons (.p x1 ⟨0,fun q=>absurd rfl q,rfl⟩) .nil);subst e;obtain⟨Z2,J2,l2,m2,k2⟩:=jn k1 m1.og;exact⟨Z2,J2,l1.trans l2,m2,k2⟩
theorem iN {hint:AS->List GX}:∀ {n:Nat} {J:AS} {K:AS->Bool},lK inv hint n J K=true->∀ {Z:NV} {st:St},Mem (Th B inv) fr Z J st->∃ Z' J',Z.le Z'/\Mem (Th B inv) fr Z' J' st/\K J'=true
 |0,J,K,h,Z,st,hM=>⟨Z,J,.refl _,hM,h⟩
 |n+1,J,K,h,Z,st,hM=>by
  simp only[lK] at h;split at h;·exact⟨Z,J,.refl _,hM,h⟩
  .obtain⟨Z1,J1,l1,m1,k1⟩:=jn h hM;obtain⟨Z2,J2,l2,m2,k2⟩:=iN k1 m1;exact⟨Z2,J2,l1.trans l2,m2,k2⟩
end
end Go.Ae
namespace Go.Ae
open Go.Ev Go.RowKit
section
variable {P:Program}
open Classical in
noncomputable def DX (c1:Code)(fn1:FuncId)(s1 s1':St)(c2:Code)(fn2:FuncId)(s2:St)(x2:Xx)(s2':St)(rd1:Option Nat):EvC:=fun c rd fn st=>if c=c1/\rd=rd1/\fn=fn1/\st=s1 then some (.normal,s1') else if c=c2/\rd=rd1/\fn=fn2/\st=s2 then some (x2,s2') else none
theorem JH {c1:Code}{fn1:FuncId}{s1 s1':St}{c2:Code}{fn2:FuncId}{s2:St}{x2:Xx}{s2':St}{rd:Option Nat}(h1:Run P c1 rd s1 .normal s1')(h2:Run P c2 rd s2 x2 s2'):Lf P (DX c1 fn1 s1 s1' c2 fn2 s2 x2 s2' rd):=fun c1 rd1 fn1 st1 x1 st1' he _=>by
 unfold DX at he;split at he;·rename_i e;obtain⟨rfl,rfl,rfl,rfl⟩:=e;cases he;exact h1
 .split at he;·rename_i e;obtain⟨rfl,rfl,rfl,rfl⟩:=e;cases he;exact h2
  .cases he
noncomputable def CQ (x:Xx)(h:H)(l:Nat)(lp:Lp):V×H:=match sY x with
 |none=>(.bool true,h.set l (some (.loop { lp with state:=.ready,pending:=none })))
 |some j=>(.bool false,h.set l (some (.loop { lp with state:=.done,pending:=some j })))
theorem PW {l:Nat}{lp lp' lp'':Lp}{args:List V}{env:Env}{h:H}{st1 st2:St}{x:Xx}(h1:h.tr.get l=some (.loop lp))(h0:isReady lp.state=true)(hput:jV lp.params args lp.tmps=some env)(r1:Run P lp.assign (some l) ⟨env,h,[]⟩ .normal st1)(d1:st1.defs=[])
  (h2:st1.h.tr.get l=some (.loop lp'))(hr:isReady lp'.state=true)(r2:Run P lp.body (some l) ⟨st1.env,st1.h.set l (some (.loop { lp' with state:=.busy })),[]⟩ x st2)(d2:st2.defs=[])(h3:st2.h.tr.get l=some (.loop lp'')):
  iW P (.yield l args) h (CQ x st2.h l lp'').1 (CQ x st2.h l lp'').2:=fun s Y w hT hS=>by
 obtain⟨B,d,z,cargs,hb,ha,rfl⟩:=hT;refine qu (JH (fn1:=lp.fn) (fn2:=lp.fn) r1 r2) ?_ hS hb ha;unfold oK;rw[h1];simp only[hput];have e1:DX lp.assign lp.fn ⟨env,h,[]⟩ st1 lp.body lp.fn ⟨st1.env,st1.h.set l (some (.loop { lp' with state:=.busy })),[]⟩ x st2 (some l) lp.assign (some l) lp.fn ⟨env,h,[]⟩=some (.normal,st1):=by unfold DX;rw[if_pos ⟨rfl,rfl,rfl,rfl⟩]
 rw[e1];simp only[h2,d1,hr];have hne:(⟨st1.env,st1.h.set l (some (.loop { lp' with state:=.busy })),[]⟩:St)≠⟨env,h,[]⟩:=fun e=>by
  have e2:st1.h.set l (some (.loop { lp' with state:=.busy }))=h:=(St.mk.inj e).2.1;have:(st1.h.set l (some (.loop { lp' with state:=.busy }))).tr.get l=some (.loop { lp' with state:=.busy }):=by rw[fG,if_pos rfl]
  rw[e2,h1] at this;have:=O.loop.inj (bP this);rw[this] at h0;cases h0
 have e2:DX lp.assign lp.fn ⟨env,h,[]⟩ st1 lp.body lp.fn ⟨st1.env,st1.h.set l (some (.loop { lp' with state:=.busy })),[]⟩ x st2 (some l) lp.body (some l) lp.fn ⟨st1.env,st1.h.set l (some (.loop { lp' with state:=.busy })),[]⟩=some (x,st2):=by unfold DX;rw[if_neg fun q=>hne q.2.2.2,if_pos ⟨rfl,rfl,rfl,rfl⟩]
 rw[e2];simp only[h3,d2];unfold CQ;cases sY x<;>rfl
theorem PX {G:Γ}(hG:GOk P G){f:Operand}{params:Array Tmp}{assign body:Code}{fn g:FuncId}{st st':St}{first captured:List V}{v:V}{h1:H}{x:Xx}{fg:Func}{cg:Code}(hf:st.env.get f=some (.func (.func g) first captured))(hfg:G.funcs.get g=some fg)(hbg:fg.body=some cg)
  (hq:iW P (.fn g (first++[.func (.yield (Nat.succ st.h.next)) [] []]++captured)) ((st.h.add .deferred).add (.loop ⟨.ready,none,fn,st.env,params.toList,assign,body,st.h.next⟩)) v h1)
  (hr:jg (Nat.succ st.h.next) st.env (st.h.next :: st.defs) h1=some (x,st'))(hok1:okC assign=true)(hok2:okC body=true):Run P (.rangeFunc f params assign body) none st x st':=fun Y F a w k Q hF hS hEe hD hQ=>by
 have hW:=hF.wide;have hev1:=jO (a:=a) hS.glob hEe;have hF:F=Fence.wide:=hF;obtain⟨g1,g2⟩:=hG.funcs g fg hfg;have hrel:=hev1 _ _ hf;generalize hcf:a.eval f=cf at hrel;cases hrel with
 |func _ a1 a2 a3 a4=>
  rename_i A C;refine wpIn_rangeFunc fun fn' _=>?_;obtain⟨S1,Xx1⟩:=Hj hS;have hle1:=Xx1.le hS;obtain⟨S2,Xx2⟩:=wI (lp:=⟨.ready,none,fn,st.env,params.toList,assign,body,st.h.next⟩) (r:={ state:=.ready,pending:=none,fn:=fn',tmps:=a.tmps,params,assign,body,defers:=w.heap.size }) S1
   (fun Y' hle=>⟨_,rfl,rfl,rfl,rfl,rfl,rfl,hEe.mono (hle1.trans hle),hok1,hok2⟩)
  have hle2:=Xx2.le S1;have hXx:=Xx1.trans Xx2;have hle:=hXx.le hS;rw[World.size_alloc] at S2 Xx2 hle2 hXx hle;obtain⟨W2,hW2⟩:∃ W2,(w.alloc (.deferred (some []))).alloc (.loop { state:=.ready,pending:=none,fn:=fn',tmps:=a.tmps,params,assign,body,defers:=w.heap.size })=W2:=⟨_,rfl⟩;rw[hW2] at S2 Xx2 hXx;have hargs:fH ((Y.with st.h.next (w.heap.size,0,0)).with (st.h.add .deferred).next (w.heap.size+1,0,0)) (first++[.func (.yield (Nat.succ st.h.next)) [] []]++captured) (A++#[Value.func (.yield (w.heap.size+1)) #[] #[]]++C).toList:=by simp only[dz];refine fH.append (fH.append ⟨by simpa using a1,fun i v y p q=>(a3 i v y p (by simpa using q)).mono hle⟩ ?_) ⟨by simpa using a2,fun i v y p q=>(a4 i v y p (by simpa using q)).mono hle⟩;exact fH.cons (.yield (Ren.fF _ (st.h.add .deferred).next _)) fH.nil
  have g4:=hq _ _ _ ⟨_,hargs,rfl⟩ S2;rw[fE g1 g2 hbg] at g4;refine⟨w.heap.size+1,[{ target:=.collected w.heap.size,args:=#[] }],W2,{ target:=.fn (.func g) C,args:=A++#[Value.func (.yield (w.heap.size+1)) #[] #[]] },W2,g,(A++#[Value.func (.yield (w.heap.size+1)) #[] #[]])++C,W2,?_,?_,?_,?_,?_,?_⟩;·rw[hF,<- hW2];exact run_enterLoop_outer _ _ _ _ _
  .have hy:a.eval (.const (.func (.yield (w.heap.size+1)) #[] #[]))=.func (.yield (w.heap.size+1)) #[] #[]:=rfl;simp[resolve,hcf,Deferred.ofValue,hy]
  .intro f' _;exact hW.fn f'
  .simp only[invoke];exact fE g1 g2 hbg _ _
  .intro q;rw[hW.depth] at q;simp at q
  .rw[hF];refine(g4 (k - 1)).mono fun e w3 he=>?_;obtain⟨c,rfl,Y3,c1,c2,c3⟩:=he;have hX3:=hXx.trans c2;have hle3:=hX3.le hS;have hl3:Y3 (Nat.succ st.h.next)=some (w.heap.size+1,0,0):=c2.le S2 _ _ (Ren.fF _ (st.h.add .deferred).next _);have hd3:Y3 st.h.next=some (w.heap.size,0,0):=c2.le S2 _ _ (hle2 _ _ (Ren.fF ..));exact nC (a:={ a with defers:={ target:=.collected w.heap.size,args:=#[] } :: a.defers }) hr hX3 c1 hl3 (hEe.mono hle3) ⟨⟨_,hd3,rfl⟩,hD.mono hle3⟩ hQ
end
theorem CS {Z:NV}{sz:Nat}:∀ {ps:List Tmp} {l:List A} {t t':T A} {vs:List V} {env:Env},I9 ps l sz t=some t'->AVs Z l vs->ER Z t env.tr->env.sz=sz->∃ env',jV ps vs env=some env'/\env'.sz=sz/\ER Z t' env'.tr
 |[],l,t,t',vs,env,h,hv,he,hs=>by
  cases hv with
  |nil=>cases h;exact⟨env,rfl,hs,he⟩
  |cons=>cases h
 |p :: ps,l,t,t',vs,env,h,hv,he,hs=>by
  cases hv with
  |nil=>cases h
  |@cons a v l vs q r=>
   simp only[I9] at h;split at h;case h_2=>cases h
   rename_i hb;obtain⟨sz',tr⟩:=env;have hs:sz'=sz:=hs;subst hs;have he':ER Z (t.put p (some a)) (tr.put p (some v)):=fun x b hx=>by
    rw[T.eL] at hx;rw[T.eL];split at hx;·rename_i e;cases hx;rw[if_pos e];exact⟨v,rfl,q⟩
    .rename_i e;rw[if_neg e];exact he x b hx
   obtain⟨env',a1,a2,a3⟩:=CS (env:=⟨sz',tr.put p (some v)⟩) h r he' rfl;exact⟨env',by simp only[jV,Env.put,hb];exact a1,a2,a3⟩
section
variable {P:Program}{M:TH}
def PY (P:Program)(M:TH)(code:FuncId->Code->AS->(Xx->AS->Bool)->Bool):Prop:=∀ fn c J K,okC c=true->code fn c J K=true->∀ (fr:FR) (rd:Option Nat) (Z:NV) (st:St),Mem M fr Z J st->∃ x st',Run P c rd st x st'/\st'.defs=st.defs/\∃ Z' J',Z.le Z'/\Mem M fr Z' J' st'/\K x J'=true
theorem Mem.loop {fr:FR}{Z:NV}{J:AS}{st:St}(hM:Mem M fr Z J st){U s:Nat}{lp:ALp}(hb:J.mem.get U=some (s,.lp lp)):∃ b lpc,Z.blks[U]?=some b/\Z.objs[s]?=some [(b,.loop lpc)]/\st.h.tr.get b=some (.loop lpc)/\LpR Z lp lpc:=by
 obtain⟨b,hp,x1,x2,x3,x4⟩:=hM.hr.at' _ _ _ hb;cases x3 with
 |lp h=>exact⟨b,_,x1,x2,(x4 _ (aE ..)).1,h⟩
theorem Mem.drop {fr:FR}{Z:NV}{J:AS}{st:St}(hM:Mem M fr Z J st){U:Nat}:Mem M fr Z (J.del U) st:=by
 have go:∀ E p,(J.del U).mem.get E=some p->J.mem.get E=some p:=fun E p q=>by
  simp only[AS.del,T.eL] at q;split at q;·cases q
  .exact q
 exact⟨⟨hM.vr.ni,hM.vr.ns,hM.vr.nb,hM.vr.no,hM.vr.z0,hM.vr.zr⟩,hM.sz,hM.er,⟨fun E s a q=>hM.hr.at' _ _ _ (go _ _ q),fun E s1 a1 E' s2 a2 q1 q2 hne=>hM.hr.sep _ _ _ _ _ _ (go _ _ q1) (go _ _ q2) hne,hM.hr.frame,hM.hr.le,hM.hr.gl⟩,hM.df.nd,hM.df.at',fun d hd E s a hp q e=>hM.df.sep d hd _ _ _ _ (go _ _ q) e⟩
theorem Mem.defer {fr:FR}{Z:NV}{J:AS}{st:St}(hM:Mem M fr Z J st){U s b:Nat}(hb:J.mem.get U=some (s,.df))(h1:Z.blks[U]?=some b):Mem M fr Z (J.del U) ⟨st.env,st.h,b :: st.defs⟩:=by
 have hD:=hM.drop (U:=U);obtain⟨b',hp,x1,x2,x3,x4⟩:=hM.hr.at' _ _ _ hb;rw[h1] at x1;cases x1;cases x3 with
 |df=>
  have x5:=x4 _ (aE ..);refine⟨hD.vr,hD.sz,hD.er,hD.hr,bC.2 ⟨fun q=>hM.df.sep b q _ _ _ _ hb x2 _ (aE ..) rfl,hM.df.nd⟩,fun d hd=>?_,fun d hd E s' a hp q e=>?_⟩
  .rcases aq.1 hd with rfl|hd;·exact x5
   .exact hM.df.at' d hd
  .rcases aq.1 hd with rfl|hd
   .simp only[AS.del,T.eL] at q;split at q;·cases q
    .rename_i hne;exact fun p hp'=>hM.hr.sep _ _ _ _ _ _ q hb hne _ _ e x2 p hp' _ (aE ..)
   .exact hD.df.sep d hd _ _ _ _ q e
theorem LpR.mono {Z Z':NV}(h:Z.le Z'){l:ALp}{lp:Lp}(q:LpR Z l lp):LpR Z' l lp:=⟨q.state,q.pending,q.fn,q.sz,q.er.mono h,q.params,q.assign,q.body,h.b q.defers,q.oka,q.okb⟩
theorem G9 {code:FuncId->Code->AS->(Xx->AS->Bool)->Bool}(hcode:PY P M code):DJ P M (B5 code):=fun U args J K h fr Z st vs hM hvs=>by
 unfold B5 at h;split at h;case h_2=>cases h
 rename_i s lp hb;split at h;case h_2=>cases h
 rename_i tm hrdy hpen htm;obtain⟨b,lpc,x1,x2,x3,x4⟩:=hM.loop hb;obtain⟨env,e1,e2,e3⟩:=CS htm hvs x4.er x4.sz;have hrc:isReady lpc.state=true:=by rw[x4.state];exact hrdy
 have hO:=hM.own (sz:=lp.sz) (tm:=tm) (tr:=env.tr) e3;have henv:(⟨lp.sz,env.tr⟩:Env)=env:=by obtain⟨a,c⟩:=env;have e2:a=lp.sz:=e2;rw[<- e2]
 rw[henv] at hO;obtain⟨y1,st1,r1,d1,Z1,J1,l1,m1,h⟩:=hcode _ _ _ _ x4.oka h _ (some b) Z _ hO;split at h;case h_2=>cases h
 simp only[ae] at h;obtain⟨q1,h⟩:=h;obtain⟨ao1,q1⟩:=rA q1;have hp1:st1.h.tr.get b=some (.loop lpc)/\Z1.blks[U]?=some b/\Z1.objs[s]?=some [(b,.loop lpc)]:=by obtain⟨b',hp,z1,z2,_,z4⟩:=m1.hr.at' _ _ _ q1;rw[l1.b x1] at z1;cases z1;rw[l1.o x2] at z2;cases z2;exact⟨(z4 _ (aE ..)).1,l1.b x1,l1.o x2⟩
 have x5:=x4.mono l1;obtain⟨Z2,l2,m2⟩:=m1.gG (ao':=.lp { lp with state:=.busy }) (o':=.loop { lpc with state:=.busy }) q1 hp1.2.1 hp1.2.2 (.lp ⟨rfl,x5.pending,x5.fn,x5.sz,x5.er,x5.params,x5.assign,x5.body,x5.defers,x5.oka,x5.okb⟩);have hst2:(⟨st1.env,st1.h.set b (some (.loop { lpc with state:=.busy })),st1.defs⟩:St)=⟨st1.env,st1.h.set b (some (.loop { lpc with state:=.busy })),[]⟩:=by rw[d1]
 rw[hst2] at m2;obtain⟨y2,st2,r2,d2,Z3,J3,l3,m3,h⟩:=hcode _ _ _ _ x4.okb h _ (some b) Z2 _ m2;simp only[ae] at h;obtain⟨q2,h⟩:=h;obtain⟨ao2,q2⟩:=rA q2;have hobj2:Z2.objs[J1.no]?=some [(b,.loop { lpc with state:=.busy })]:=by
  obtain⟨b',hp,z1,z2,z3,z4⟩:=m2.hr.at' U J1.no (.lp { lp with state:=.busy }) (by show(J1.mem.put U _).get U=_;rw[T.eL,if_pos rfl]);rw[l2.b hp1.2.1] at z1;cases z1;cases z3 with
  |lp q=>have z4:=(z4 _ (aE ..)).1;have z4:(st1.h.set b (some (.loop { lpc with state:=.busy }))).tr.get b=_:=z4;rw[fG,if_pos rfl] at z4;have:=O.loop.inj (bP z4);rw[z2,<- this]
 have hp2:st2.h.tr.get b=some (.loop { lpc with state:=.busy })/\Z3.blks[U]?=some b/\Z3.objs[J1.no]?=some [(b,.loop { lpc with state:=.busy })]:=by obtain⟨b',hp,z1,z2,_,z4⟩:=m3.hr.at' _ _ _ q2;rw[l3.b (l2.b hp1.2.1)] at z1;cases z1;rw[l3.o hobj2] at z2;cases z2;exact⟨(z4 _ (aE ..)).1,l3.b (l2.b hp1.2.1),l3.o hobj2⟩
 have hq:=PW (P:=P) (args:=vs) x3 hrc (by rw[x4.params];exact e1) (by rw[x4.assign];exact r1) d1 hp1.1 hrc (Eq.mpr (congrArg (fun c=>Run P c (some b) _ y2 st2) x4.body) r2) d2 hp2.1;have hle3:=(l1.trans l2).trans l3;have x6:=x4.mono hle3;refine⟨b,_,_,x1,hq,?_⟩;have hd2:(⟨st2.env,st2.h,st2.defs⟩:St)=⟨st2.env,st2.h,[]⟩:=by rw[d2]
 have m3':Mem M (lB Z J.mem st.h) Z3 J3 ⟨st2.env,st2.h,[]⟩:=by rw[<- hd2];exact m3
 unfold CQ;split at h
 .rename_i hj;rw[hj];have m4:=m3'.again (ao':=.lp lp) (o':=.loop lpc) q2 hp2.2.1 hp2.2.2 (hle3.o x2) (.lp x6);have m5:=hM.back hle3 m4;have heq:({ { lpc with state:=LoopState.busy } with state:=.ready,pending:=none }:Lp)=lpc:=by
   have a:=x4.state;have c:=x4.pending;rw[hpen] at c;obtain⟨f1,f2,f3,f4,f5,f6,f7,f8⟩:=lpc;simp only at a c hrc;subst c;cases f1<;>first|rfl|cases hrc
  refine⟨Z3,_,_,hle3,?_,.k _,h⟩;show Mem M fr Z3 _ ⟨st.env,st2.h.set b (some (.loop { { lpc with state:=LoopState.busy } with state:=.ready,pending:=none })),st.defs⟩;rw[heq];exact m5
 .rename_i j hj;rw[hj];obtain⟨Z4,l4,m4⟩:=m3'.gG (ao':=.lp { lp with state:=.done,pending:=some j }) (o':=.loop { lpc with state:=.done,pending:=some j }) q2 hp2.2.1 hp2.2.2 (.lp ⟨rfl,rfl,x6.fn,x6.sz,x6.er,x6.params,x6.assign,x6.body,x6.defers,x6.oka,x6.okb⟩);have m5:=hM.back (hle3.trans l4) m4;exact⟨Z4,_,_,hle3.trans l4,m5,.k _,h⟩
end
variable {cf:CF}{fn:FuncId}{c:Code}
inductive lN (P:Program)(b:Code)(rd:Option Nat):Nat->St->Xx->St->Prop
 |stop {n:Nat} {st st':St} {x:Xx} (h:Run P b rd st x st') (hx:x≠.normal):lN P b rd n st x st'
 |step {n:Nat} {st st1 st':St} {x:Xx} (h:Run P b rd st .normal st1) (k:lN P b rd n st1 x st'):lN P b rd (n+1) st x st'
theorem lN.run {P:Program}{b:Code}{rd:Option Nat}{n:Nat}{st:St}{x:Xx}{st':St}(h:lN P b rd n st x st'):Run P (.loop b) rd st x st':=fun Y F a w k Q hF hS hEe hD hQ=>by
 refine jS (fun m a1 w1=>∃ Y1 st1,lN P b rd m st1 x st'/\Sim Y1 st1.h w1/\Ext Y st.h w Y1 st1.h w1/\iU Y1 st1.env a1.tmps/\yE Y1 st1.defs a1.defers) (fun m a1 w1 hJ=>?_)
  (m:=n) ⟨Y,st,h,hS,Ext.refl _ _ _,hEe,hD⟩
 obtain⟨Y1,st1,r,s1,s2,s3,s4⟩:=hJ;have hF1:=hF.mono (s2.le hS);cases r with
 |stop h hx=>
  refine h Y1 F a1 w1 k _ hF1 s1 s3 s4 fun Y2 a2 w2 t1 t2 t3 t4=>?_;have:=hQ Y2 a2 w2 t1 (s2.trans t2) t3 t4;cases x with
  |normal=>exact absurd rfl hx
  |exit id=>exact this
  |ret=>exact this
 |step h r=>rename_i m st2;refine h Y1 F a1 w1 k _ hF1 s1 s3 s4 fun Y2 a2 w2 t1 t2 t3 t4=>?_;exact⟨m,cF m,Y2,st2,r,t1,s2.trans t2,t3,t4⟩
def zah (id:Nat):Xx->Xx
 |.exit id'=>match Nat.beq id' id with
  |true=>.normal
  |false=>.exit id'
 |x=>x
theorem Run.block {P:Program}{b:Code}{rd:Option Nat}{id:Nat}{st:St}{x:Xx}{st':St}(h:Run P b rd st x st'):Run P (.block id b) rd st (zah id x) st':=fun Y F a w k Q hF hS hEe hD hQ=>by
 refine wpIn_block (h Y F a w k _ hF hS hEe hD fun Y' a' w' s1 s2 s3 s4=>?_);have:=hQ Y' a' w' s1 s2 s3 s4;cases x with
 |normal=>exact this
 |ret=>exact this
 |exit id'=>
  simp only[XE,Exit.inBlock];unfold zah at this;simp only at this;split at this;·rename_i e;rw[T.beq_true] at e;rw[if_pos e];exact this
  .rename_i e;rw[if_neg (fun q=>by rw[q,(T.beq_true).2 rfl] at e;cases e)];exact this
theorem RW {id:Nat}{x:Xx}{J:AS}{K:Xx->AS->Bool}(h:(match x with
   |.exit i=>match Nat.beq i id with
    |true=>K .normal J
    |false=>K (.exit i) J
   |x=>K x J)=true):K (zah id x) J=true:=by
 cases x with
 |normal=>exact h
 |ret=>exact h
 |exit i=>unfold zah;simp only at h ⊢;split at h<;>exact h
def Jk (P:Program)(c:Code)(hd:HD)(vs:List V)(h:H)(v:V)(h':H):Prop:=v=.tuple []/\∀ rd tr defs,(∀ (i:Nat) (t:Tmp) (u:V),hd.args[i]?=some t->vs[i]?=some u->tr.get t=some u)->Run P c rd ⟨⟨hd.sz,tr⟩,h,defs⟩ .normal ⟨⟨hd.sz,od hd.args tr⟩,h',defs⟩
def DH (cf:CF)(fn:FuncId)(c:Code):Prop:=∃ f b,cf.G.funcs.get fn=some f/\f.body=some b/\c∈iP b
theorem fJ (c:Code):c∈iP c:=by cases c<;>simp[iP]
theorem gW {d c:Code}:∀ {b:Code},c∈iP b->d∈iP c->d∈iP b
 |.seq x y,h,k=>by
  simp only[iP,aq,aK] at h;rcases h with rfl|h|h
  .exact k
  .simp only[iP,aq,aK];exact .inr (.inl (gW h k))
  .simp only[iP,aq,aK];exact .inr (.inr (gW h k))
 |.cond _ x y,h,k=>by
  simp only[iP,aq,aK] at h;rcases h with rfl|h|h
  .exact k
  .simp only[iP,aq,aK];exact .inr (.inl (gW h k))
  .simp only[iP,aq,aK];exact .inr (.inr (gW h k))
 |.block _ x,h,k=>by
  simp only[iP,aq] at h;rcases h with rfl|h
  .exact k
  .simp only[iP,aq];exact .inr (gW h k)
 |.loop x,h,k=>by
  simp only[iP,aq] at h;rcases h with rfl|h
  .exact k
  .simp only[iP,aq];exact .inr (gW h k)
 |.skip,h,k=>by simp only[iP,aj] at h;subst h;exact k
 |.region ..,h,k=>by simp only[iP,aj] at h;subst h;exact k
 |.exit _,h,k=>by simp only[iP,aj] at h;subst h;exact k
 |.ret,h,k=>by simp only[iP,aj] at h;subst h;exact k
 |.rangeFunc ..,h,k=>by simp only[iP,aj] at h;subst h;exact k
 |.scope _,h,k=>by simp only[iP,aj] at h;subst h;exact k
 |.label _,h,k=>by simp only[iP,aj] at h;subst h;exact k
 |.goto _,h,k=>by simp only[iP,aj] at h;subst h;exact k
 |.refuse _,h,k=>by simp only[iP,aj] at h;subst h;exact k
theorem DH.down {d:Code}(h:DH cf fn c)(q:d∈iP c):DH cf fn d:=let ⟨f,b,x,y,z⟩:=h;⟨f,b,x,y,gW z q⟩
theorem oo {α:Type}:∀ {l:List Tmp} {tm:T α} {t:Nat} {a:α},(od l tm).get t=some a->tm.get t=some a/\t∈l
 |[],tm,t,a,h=>by simp[od,T.eR] at h
 |x :: l,tm,t,a,h=>by
  simp only[od,T.eL] at h;split at h;·rename_i e;subst e;exact⟨h,by simp⟩
  .obtain⟨p,q⟩:=oo h;exact⟨p,by simp[q]⟩
theorem Cr {α:Type}:∀ {l:List Tmp} {tm:T α} {t:Nat},t∈l->(od l tm).get t=tm.get t
 |x :: l,tm,t,h=>by
  simp only[od,T.eL];split;·rename_i e;rw[e]
  .rename_i e;rcases aq.1 h with q|q
   .exact absurd q e
   .exact Cr q
theorem kN {inr:Bool}{d:Code}(h:uA cf inr fn c=true)(q:d∈iP c):uA cf inr fn d=true:=by
 have h:=gL h;unfold uA;have key:∀ l:List Code,(∀ x,x∈l->(DC cf inr fn x).isNone=true)->fm (fun d=>(DC cf inr fn d).isNone) l=true:=fun l=>by
  induction l with
  |nil=>exact fun _=>rfl
  |cons x l ih=>intro q;simp only[fm,q x (by simp)];exact ih fun y hy=>q y (by simp[hy])
 exact key _ fun x hx=>h x (gW q hx)
theorem Aq {inr:Bool}(h:uA cf inr fn c=true):DC cf inr fn c=none:=by have:=gL h c (fJ c);simpa using this
def fR (B:TH)(P:Program)(cf:CF):Prop:=∀ fn c hd,cf.hand fn c=some hd->DH cf fn c->∀ cn,cn∈hd.cns->Ku (Jk P c hd) (Th B cf.inv) cn
theorem Cs {Z:NV}{tm:T A}{tr:T V}(he:ER Z tm tr):∀ {l:List Tmp} {r:List A},Je tm l=some r->∃ vs:List V,AVs Z r vs/\∀ (i:Nat) (t:Tmp) (u:V),l[i]?=some t->vs[i]?=some u->tr.get t=some u
 |[],r,h=>by cases h;exact⟨[],.nil,fun i t u h=>by simp at h⟩
 |t :: l,r,h=>by
  simp only[Je] at h;split at h
  .rename_i a r' h1 h2;cases h;obtain⟨v,v1,v2⟩:=he _ _ h1;obtain⟨vs,w1,w2⟩:=Cs he h2;refine⟨v :: vs,.cons v2 w1,fun i t' u hi hu=>?_⟩;cases i with
   |zero=>simp at hi hu;subst hi hu;exact v1
   |succ i=>exact w2 i t' u (by simpa using hi) (by simpa using hu)
  .cases h
theorem ye {P:Program}{M:TH}{fr:FR}{b:Code}{rd:Option Nat}{id:Nat}{K:Xx->AS->Bool}{L:List Tmp}{inr:Bool}{code:AS->(Xx->AS->Bool)->Bool}
  (hc:∀ (J:AS) (K:Xx->AS->Bool),code J K=true->∀ (Z:NV) (st:St),Mem M fr Z J st->∃ x st',Run P b rd st x st'/\Jl L st st'/\(st'.env.sz=st.env.sz/\(inr=true->st'.defs=st.defs))/\∃ Z' J',Z.le Z'/\Mem M fr Z' J' st'/\K x J'=true):
  ∀ (m:Nat) (J:AS),vT code id K m J=true->∀ (Z:NV) (st:St),Mem M fr Z J st->∃ x st',(∃ n,lN P b rd n st x st')/\Jl L st st'/\(st'.env.sz=st.env.sz/\(inr=true->st'.defs=st.defs))/\∃ Z' J',Z.le Z'/\Mem M fr Z' J' st'/\K (zah id x) J'=true
 |0,_,h,_,_,_=>by cases h
 |m+1,J,h,Z,st,hM=>by
  simp only[vT] at h;obtain⟨x,st1,r1,k1,z1,Z1,J1,l1,m1,h1⟩:=hc _ _ h Z st hM;cases x with
  |normal=>obtain⟨x,st2,⟨n,r2⟩,k2,z2,Z2,J2,l2,m2,h2⟩:=ye hc m J1 h1 Z1 st1 m1;exact⟨x,st2,⟨n+1,.step r1 r2⟩,fun t ht=>(k2 t ht).trans (k1 t ht),⟨z2.1.trans z1.1,fun q=>(z2.2 q).trans (z1.2 q)⟩,Z2,J2,l1.trans l2,m2,h2⟩
  |exit i=>exact⟨.exit i,st1,⟨0,.stop r1 (fun q=>nomatch q)⟩,k1,z1,Z1,J1,l1,m1,RW (x:=.exit i) h1⟩
  |ret=>exact⟨.ret,st1,⟨0,.stop r1 (fun q=>nomatch q)⟩,k1,z1,Z1,J1,l1,m1,h1⟩
section
variable {P:Program}{B:TH}{cf:CF}(hG:GOk P cf.G){call:qG}(hcall:qn P (Th B cf.inv) call)(hhand:fR B P cf)
theorem rj (hG:GOk P cf.G)(hcall:qn P (Th B cf.inv) call)(hhand:fR B P cf):∀ (n:Nat) (fn:FuncId) (inr:Bool) (c:Code) (J:AS) (K:Xx->AS->Bool),okC c=true->(inr=false->DH cf fn c)->nt cf call fn inr n c J K=true->∀ (fr:FR) (rd:Option Nat),(inr=false->rd=none)->∀ (Z:NV) (st:St),Mem (Th B cf.inv) fr Z J st->∃ x st',Run P c rd st x st'/\(uA cf inr fn c=true->Jl (asg c) st st')/\(st'.env.sz=st.env.sz/\(inr=true->st'.defs=st.defs))/\∃ Z' J',Z.le Z'/\Mem (Th B cf.inv) fr Z' J' st'/\K x J'=true
 |0,_,_,_,_,_,_,_,h,_,_,_,_,_,_=>by cases h
 |n+1,fn,inr,c,J,K,hok,hs,h,fr,rd,hrd,Z,st,hM=>by
  have ih:=fun c J K a s b Z st h=>rj hG hcall hhand n fn inr c J K a s b fr rd hrd Z st h;have hz0:st.env.sz=st.env.sz/\(inr=true->st.defs=st.defs):=⟨rfl,fun _=>rfl⟩;have hrefl:∀ l,Jl l st st:=fun l t _=>rfl;simp only[nt] at h;cases hhd:DC cf inr fn c with
  |some hd=>
   rw[hhd] at h;have hin:inr=false:=by cases inr with
    |true=>cases hhd
    |false=>rfl
   have hh0:=hhd;have hhd:cf.hand fn c=some hd:=by rw[hin] at hhd;exact hhd
   simp only at h;obtain⟨l,hl,h⟩:=eU h;split at h;case h_2=>cases h
   rename_i q;rw[T.beq_true] at q;obtain⟨vs,w1,w2⟩:=Cs hM.er hl;obtain⟨cn,hcn,h⟩:=oA h;obtain⟨v,h',⟨_,r⟩,Z1,J1,a,l1,m1,_,k1⟩:=zX h (hhand fn c hd hhd (hs hin) cn hcn) hM w1;obtain⟨⟨sz,tr⟩,hh,defs⟩:=st;have e:sz=hd.sz:=hM.sz.trans q;subst e;refine⟨.normal,⟨⟨hd.sz,od hd.args tr⟩,h',defs⟩,r rd tr defs w2,fun q=>(by rw[Aq q] at hh0;cases hh0),⟨rfl,fun _=>rfl⟩,Z1,{ J1 with tm:=od hd.args J1.tm },l1,⟨⟨m1.vr.ni,m1.vr.ns,m1.vr.nb,m1.vr.no,m1.vr.z0,m1.vr.zr⟩,m1.sz,fun t a ht=>?_,m1.hr,m1.df⟩,k1⟩;obtain⟨x2,x1⟩:=oo ht;obtain⟨v,y1,y2⟩:=m1.er _ _ x2;exact⟨v,(Cr x1).trans y1,y2⟩
  |none=>
  rw[hhd] at h;clear hhd;cases c with
  |skip=>exact⟨.normal,st,fun Y F a w k Q _ hS hEe hD hQ=>wpIn_skip (hQ Y a w hS (Ext.refl _ _ _) hEe hD),fun _=>hrefl _,hz0,Z,J,.refl _,hM,h⟩
  |exit id=>exact⟨.exit id,st,fun Y F a w k Q _ hS hEe hD hQ=>wpIn_exit (hQ Y a w hS (Ext.refl _ _ _) hEe hD),fun _=>hrefl _,hz0,Z,J,.refl _,hM,h⟩
  |ret=>exact⟨.ret,st,fun Y F a w k Q _ hS hEe hD hQ=>wpIn_ret (hQ Y a w hS (Ext.refl _ _ _) hEe hD),fun _=>hrefl _,hz0,Z,J,.refl _,hM,h⟩
  |region id ops d=>
   simp only at h;obtain⟨Zg,Jg,lg,hMg,h⟩:=iN h hM;have hyl:=G9 (P:=P) (M:=Th B cf.inv) (code:=fun fn c=>nt cf call fn true n c) fun fn c J K q1 q2 fr rd Z st q3=>let ⟨x,st',a,_,b,d⟩:=rj hG hcall hhand n fn true c J K q1 (fun q=>nomatch q) q2 fr rd (fun q=>nomatch q) Z st q3;⟨x,st',a,b.2 rfl,d⟩;split at h;case h_2=>obtain⟨call',env',h',c1,c2,a1,a0,Z',J',a3,a4,a5⟩:=BC hcall hyl h hMg;refine⟨.normal,⟨env',h',st.defs⟩,fun Y F a w k Q hF hS hEe hD hQ=>?_,fun _ t ht=>a1 t ht,⟨a0,fun _=>rfl⟩,Z',J',lg.trans a3,a4,a5⟩;exact Bc hG c1 hF.wide (by simpa only[okC] using hok) hG.mixed c2 hS hEe fun Y' a' w' q1 q2 q3 q4=>hQ Y' a' w' q1 q2 q3 (by rw[q4];exact hD.mono (q2.le hS))
   obtain⟨env',h',a1,a0,a2,Z',J',a3,a4,a5⟩:=vY hG hcall hyl ops.toList 0 (fun j o hj=>by rw[aI,<- aM];exact hj) h hMg;refine⟨.normal,⟨env',h',st.defs⟩,fun Y F a w k Q hF hS hEe hD hQ=>?_,fun _ t ht=>a1 t ht,⟨a0,fun _=>rfl⟩,Z',J',lg.trans a3,a4,a5⟩
   .refine jN ?_;have:=a2 F hF.wide k Q 0 Y a w hS hEe fun Y' a' w' s1 s2 s3 s4=>by
     show wpOpsIn F k P ops Q [] a' w';exact hQ Y' a' w' s1 s2 s3 (by rw[s4];exact hD.mono (s2.le hS))
    rw[bX,aT] at this;exact this
  |seq c1 c2=>
   simp only at h;simp only[okC,ae] at hok;obtain⟨x,st1,r1,k1,z1,Z1,J1,l1,m1,h1⟩:=ih c1 J _ hok.1 (fun q=>(hs q).down (by simp[iP,fJ])) h Z st hM;cases x with
   |normal=>
    obtain⟨x,st2,r2,k2,z2,Z2,J2,l2,m2,h2⟩:=ih c2 J1 K hok.2 (fun q=>(hs q).down (by simp[iP,fJ])) h1 Z1 st1 m1;refine⟨x,st2,fun Y F a w k Q hF hS hEe hD hQ=>?_,fun q t ht=>?_,⟨z2.1.trans z1.1,fun q=>(z2.2 q).trans (z1.2 q)⟩,Z2,J2,l1.trans l2,m2,h2⟩;·refine wpIn_seq (r1 Y F a w k _ hF hS hEe hD fun Y1 a1 w1 s1 s2 s3 s4=>?_);exact r2 Y1 F a1 w1 k Q (hF.mono (s2.le hS)) s1 s3 s4 fun Y' a' w' t1 t2 t3 t4=>hQ Y' a' w' t1 (s2.trans t2) t3 t4
    .simp only[asg,aK,not_or] at ht;rw[k2 (kN q (by simp[iP,fJ])) t ht.2,k1 (kN q (by simp[iP,fJ])) t ht.1]
   |exit id=>refine⟨.exit id,st1,fun Y F a w k Q hF hS hEe hD hQ=>wpIn_seq (r1 Y F a w k _ hF hS hEe hD fun Y1 a1 w1 s1 s2 s3 s4=>hQ Y1 a1 w1 s1 s2 s3 s4),fun q t ht=>?_,z1,Z1,J1,l1,m1,h1⟩;simp only[asg,aK,not_or] at ht;exact k1 (kN q (by simp[iP,fJ])) t ht.1
   |ret=>refine⟨.ret,st1,fun Y F a w k Q hF hS hEe hD hQ=>wpIn_seq (r1 Y F a w k _ hF hS hEe hD fun Y1 a1 w1 s1 s2 s3 s4=>hQ Y1 a1 w1 s1 s2 s3 s4),fun q t ht=>?_,z1,Z1,J1,l1,m1,h1⟩;simp only[asg,aK,not_or] at ht;exact k1 (kN q (by simp[iP,fJ])) t ht.1
  |cond c c1 c2=>
   simp only at h;simp only[okC,ae] at hok;obtain⟨ca,c0,h⟩:=eU h;obtain⟨e,e0,h⟩:=eU h;obtain⟨v,v1,v2⟩:=eS hM c0;obtain⟨b,rfl,hb⟩:=yq e0 v2;obtain⟨J1,u1,h1⟩:=iu h hM.vr hb;have split:∀ {x st'},(b=true->Run P c1 rd st x st')->(b=false->Run P c2 rd st x st')->Run P (.cond c c1 c2) rd st x st':=fun {x st'} r1 r2 Y F a w k Q hF hS hEe hD hQ=>pS hS.glob hEe v1 (fun q=>r1 q Y F a w k Q hF hS hEe hD hQ) fun q=>r2 q Y F a w k Q hF hS hEe hD hQ;cases b with
   |true=>obtain⟨x,st1,r1,k1,z1,Z1,J1,l1,m1,h1⟩:=ih c1 J1 K hok.1 (fun q=>(hs q).down (by simp[iP,fJ])) h1 Z st (hM.up u1);refine⟨x,st1,split (fun _=>r1) fun q=>(nomatch q),fun q t ht=>?_,z1,Z1,J1,l1,m1,h1⟩;simp only[asg,aK,not_or] at ht;exact k1 (kN q (by simp[iP,fJ])) t ht.1
   |false=>obtain⟨x,st1,r1,k1,z1,Z1,J1,l1,m1,h1⟩:=ih c2 J1 K hok.2 (fun q=>(hs q).down (by simp[iP,fJ])) h1 Z st (hM.up u1);refine⟨x,st1,split (fun q=>nomatch q) fun _=>r1,fun q t ht=>?_,z1,Z1,J1,l1,m1,h1⟩;simp only[asg,aK,not_or] at ht;exact k1 (kN q (by simp[iP,fJ])) t ht.2
  |block id b=>
   simp only at h;simp only[okC] at hok;split at h
   .rename_i b;rw[ae] at h;obtain⟨hnh,h⟩:=h;obtain⟨Zg,Jg,lg,hMg,h⟩:=iN h hM;have hM:=hMg;clear hMg;suffices hs:∃ x st',Run P (.block id (.loop b)) rd st x st'/\Jl (asg (.block id (.loop b))) st st'/\(st'.env.sz=st.env.sz/\(inr=true->st'.defs=st.defs))/\∃ Z' J',Zg.le Z'/\Mem (Th B cf.inv) fr Z' J' st'/\K x J'=true from let ⟨x,st',a,b,c,Z',J',d,e⟩:=hs;⟨x,st',a,fun _=>b,c,Z',J',lg.trans d,e⟩
    clear lg;generalize Zg=Z at hM;generalize Jg=J at hM h;generalize cf.ann fn id J=las at h;split at h;·obtain⟨x,st',⟨n',r⟩,k1,z1,Z',J',l1,m1,h1⟩:=ye (P:=P) (M:=Th B cf.inv) (fr:=fr) (b:=b) (rd:=rd) (id:=id) (K:=K) (L:=asg b) (inr:=inr) (code:=fun J K=>nt cf call fn inr n b J K) (fun J K h Z st hM=>let ⟨x,st',a,k,c⟩:=ih b J K hok (fun q=>(hs q).down (by simp[iP,fJ])) h Z st hM;⟨x,st',a,k hnh,c⟩) 70 J h Z st hM;exact⟨zah id x,st',r.run.block,k1,z1,Z',J',l1,m1,h1⟩
    simp only[ae] at h;obtain⟨la0,hla0,q0⟩:=oA h.1;have hall:=gL h.2;have key:∀ (m m2:Nat) (la:LA),la∈las->∀ (Zh:NV) (st1:St),Z.le Zh->Mem (Th B cf.inv) fr Zh (FI J b la) st1->Jl (asg b) st st1->(st1.env.sz=st.env.sz/\(inr=true->st1.defs=st.defs))->(∃ p q,Num Zh la.hi p/\Num Zh la.lo q/\(p - q).toNat=m)->(∃ p q,Num Zh la.hi2 p/\Num Zh la.lo2 q/\(p - q).toNat=m2) ->
      ∃ x st',(∃ n,lN P b rd n st1 x st')/\Jl (asg b) st st'/\(st'.env.sz=st.env.sz/\(inr=true->st'.defs=st.defs))/\∃ Z' J',Z.le Z'/\Mem (Th B cf.inv) fr Z' J' st'/\K (zah id x) J'=true:=by
     intro m;induction m using Nat.strongRecOn with
     |ind m ihm=>
     intro m2;induction m2 using Nat.strongRecOn with
     |ind m2 ihm2=>
      intro la hla Zh st1 hle hMh hK hz ⟨p,q,hp,hq,hm⟩ ⟨p2,q2,hp2,hq2,hm2⟩;obtain⟨x,st2,r,k,z,Z2,J2,l2,m2',h2⟩:=ih b _ _ hok (fun q=>(hs q).down (by simp[iP,fJ])) (hall la hla) Zh st1 hMh;have k:=k hnh;have hK2:Jl (asg b) st st2:=fun t ht=>by rw[k t ht,hK t ht]
      cases x with
      |normal=>
       obtain⟨Z3,J3,l3,m3,h2⟩:=iN h2 m2';have l2:=l2.trans l3;have m2':=m3;clear m3 l3;generalize Z3=Z2 at l2 m2';generalize J3=J2 at h2 m2';obtain⟨la',hla',q'⟩:=oA h2;split at q';case h_2=>cases q'
       rename_i X hX;obtain⟨Zh',g1,g2,g3,⟨⟨c,hc⟩,⟨d,hd⟩⟩,⟨c2,hc2⟩,⟨d2,hd2⟩⟩:=F6 hM hX m2' (hle.trans l2) hK2 (z.1.trans hz.1);have hlt:=MK q' m2'.vr.zr m2'.vr.z0 g2 (hp.mono l2) (hq.mono l2) hc hd (hp2.mono l2) (hq2.mono l2) hc2 hd2;rw[hm,hm2] at hlt;have hz2:st2.env.sz=st.env.sz/\(inr=true->st2.defs=st.defs):=⟨z.1.trans hz.1,fun q=>(z.2 q).trans (hz.2 q)⟩;rcases hlt with hlt|⟨hle1,hlt⟩
       .obtain⟨x,st',⟨n,a1⟩,a2,a3,a4⟩:=ihm _ hlt _ la' hla' Zh' st2 g1 g3 hK2 hz2 ⟨c,d,hc,hd,rfl⟩ ⟨c2,d2,hc2,hd2,rfl⟩;exact⟨x,st',⟨n+1,.step r a1⟩,a2,a3,a4⟩
       .rcases Nat.lt_or_eq_of_le hle1 with hl|he;·obtain⟨x,st',⟨n,a1⟩,a2,a3,a4⟩:=ihm _ hl _ la' hla' Zh' st2 g1 g3 hK2 hz2 ⟨c,d,hc,hd,rfl⟩ ⟨c2,d2,hc2,hd2,rfl⟩;exact⟨x,st',⟨n+1,.step r a1⟩,a2,a3,a4⟩
        .obtain⟨x,st',⟨n,a1⟩,a2,a3,a4⟩:=ihm2 _ hlt la' hla' Zh' st2 g1 g3 hK2 hz2 ⟨c,d,hc,hd,he⟩ ⟨c2,d2,hc2,hd2,rfl⟩;exact⟨x,st',⟨n+1,.step r a1⟩,a2,a3,a4⟩
      |exit id'=>exact⟨.exit id',st2,⟨0,.stop r (fun q=>nomatch q)⟩,hK2,⟨z.1.trans hz.1,fun q=>(z.2 q).trans (hz.2 q)⟩,Z2,J2,hle.trans l2,m2',RW (x:=.exit id') h2⟩
      |ret=>exact⟨.ret,st2,⟨0,.stop r (fun q=>nomatch q)⟩,hK2,⟨z.1.trans hz.1,fun q=>(z.2 q).trans (hz.2 q)⟩,Z2,J2,hle.trans l2,m2',h2⟩
    obtain⟨X0,hX0⟩:=bu.1 q0;obtain⟨Zh,g1,g2,g3,⟨⟨c,hc⟩,⟨d,hd⟩⟩,⟨c2,hc2⟩,⟨d2,hd2⟩⟩:=F6 hM hX0 hM (.refl _) (hrefl (asg b)) rfl;obtain⟨x,st',⟨n',a1⟩,a2,a3,Z',J',a4,a5,a6⟩:=key _ _ la0 hla0 Zh st g1 g3 (hrefl _) hz0 ⟨c,d,hc,hd,rfl⟩ ⟨c2,d2,hc2,hd2,rfl⟩;exact⟨zah id x,st',a1.run.block,a2,a3,Z',J',a4,a5,a6⟩
   .obtain⟨x,st1,r1,k1,z1,Z1,J1,l1,m1,h1⟩:=ih b J _ hok (fun q=>(hs q).down (by simp[iP,fJ])) h Z st hM;exact⟨zah id x,st1,r1.block,fun q=>k1 (kN q (by simp[iP,fJ])),z1,Z1,J1,l1,m1,RW h1⟩
  |rangeFunc f ps ac body=>
   simp only at h;simp only[okC,ae] at hok;split at h;·cases h
   rename_i hinr;have hrd:=hrd rfl;subst hrd;obtain⟨va,f0,h⟩:=eU h;obtain⟨v,v1,v2⟩:=eS hM f0;split at h;case h_2=>cases h
   rename_i g aa cc _;obtain⟨fg,hfg,h⟩:=eU h;obtain⟨cg,hbg,h⟩:=eU h;cases v2 with
   |@fn _ _ _ a' c' q1 q2=>
    obtain⟨Z1,l1,b1,m1⟩:=hM.add (ao:=.df) (o:=.deferred) fun _ _=>.df;have hnx:(st.h.add .deferred).next=Nat.succ st.h.next:=gB _ _
    obtain⟨Z2,l2,b2,m2⟩:=m1.add (ao:=.lp ⟨.ready,none,fn,J.sz,J.tm,ps.toList,ac,body,J.nb⟩) (o:=.loop ⟨.ready,none,fn,st.env,ps.toList,ac,body,st.h.next⟩) fun Z' hle=>.lp ⟨rfl,rfl,rfl,hM.sz,(hM.er.mono l1).mono hle,rfl,rfl,rfl,hle.b b1,hok.1,hok.2⟩;have b2:Z2.blks[Nat.succ J.nb]?=some (Nat.succ st.h.next):=by rw[<- hnx];exact b2
    obtain⟨v,h1,cq,Z3,J3,ra,l3,m3,_,h⟩:=hcall _ _ _ _ h fr Z2 _ _ m2 (((q1.mono (l1.trans l2)).append (.cons (.yd b2) .nil)).append (q2.mono (l1.trans l2)));simp only at h;split at h;case h_2=>cases h
    rename_i s1 lp s2 e1 e2;split at h;·cases h
    rename_i hbusy;obtain⟨b,lpc,x1,x2,x3,x4⟩:=m3.loop e1;rw[l3.b b2] at x1;cases x1;obtain⟨Z4,l4,m4⟩:=m3.gG (ao':=.lp { lp with state:=.exhausted }) (o':=.loop { lpc with state:=.exhausted }) e1 (l3.b b2) x2 (.lp ⟨rfl,x4.pending,x4.fn,x4.sz,x4.er,x4.params,x4.assign,x4.body,x4.defers,x4.oka,x4.okb⟩);have hb1:Z4.blks[J.nb]?=some st.h.next:=l4.b (l3.b (l2.b b1));have hne:J.nb≠Nat.succ J.nb:=by omega
    have e2':((J3.gG (Nat.succ J.nb) (.lp { lp with state:=.exhausted })).del (Nat.succ J.nb)).mem.get J.nb=some (s2,.df):=by simp only[AS.del,AS.gG,T.eL,if_neg hne];exact e2
    have m5:=(m4.drop (U:=Nat.succ J.nb)).defer e2' hb1;have hle:=((l1.trans l2).trans l3).trans l4;have m6:Mem (Th B cf.inv) fr Z4 { ((J3.gG (Nat.succ J.nb) (.lp { lp with state:=.exhausted })).del (Nat.succ J.nb)).del J.nb with sz:=J.sz,tm:=J.tm } ⟨st.env,h1.set (Nat.succ st.h.next) (some (.loop { lpc with state:=.exhausted })),st.h.next :: st.defs⟩:=
     ⟨⟨m5.vr.ni,m5.vr.ns,m5.vr.nb,m5.vr.no,m5.vr.z0,m5.vr.zr⟩,hM.sz,hM.er.mono hle,m5.hr,m5.df⟩
    have run:∀ x,jg (Nat.succ st.h.next) st.env (st.h.next :: st.defs) h1=some (x,⟨st.env,h1.set (Nat.succ st.h.next) (some (.loop { lpc with state:=.exhausted })),st.h.next :: st.defs⟩)->Run P (.rangeFunc f ps ac body) none st x ⟨st.env,h1.set (Nat.succ st.h.next) (some (.loop { lpc with state:=.exhausted })),st.h.next :: st.defs⟩:=fun x he=>PX hG v1 hfg hbg cq he hok.1 hok.2;have hbz:yN lpc.state=false:=by rw[x4.state];exact hbusy
    unfold KG at h;split at h;·rename_i hp;exact⟨.normal,_,run _ (by unfold jg;rw[x3];simp only[hbz,x4.pending,hp]),fun _=>hrefl _,⟨rfl,fun q=>nomatch q⟩,Z4,_,hle,m6,h⟩
    .rename_i hp;exact⟨.ret,_,run _ (by unfold jg;rw[x3];simp only[hbz,x4.pending,hp]),fun _=>hrefl _,⟨rfl,fun q=>nomatch q⟩,Z4,_,hle,m6,h⟩
    .rename_i id hp;exact⟨.exit id,_,run _ (by unfold jg;rw[x3];simp only[hbz,x4.pending,hp]),fun _=>hrefl _,⟨rfl,fun q=>nomatch q⟩,Z4,_,hle,m6,h⟩
    .cases h
  |_=>cases h
end
end Go.Ae
namespace Go.Ae
open Go.Ev Go.RowKit
section
variable {M:TH}{fr:FR}{Z:NV}{J:AS}{st:St}
theorem Mem.take:∀ {defs:List Nat} {Z:NV} {J:AS} {env:Env} {h:H},Mem M fr Z J ⟨env,h,defs⟩->∃ h2,kR defs h=some h2/\Mem M fr Z J ⟨env,h2,[]⟩
 |[],Z,J,env,h,hM=>⟨h,rfl,hM⟩
 |d :: defs,Z,J,env,h,hM=>by
  obtain⟨d1,d2,d3⟩:=hM.df.at' d (by simp);have nd:=bC.1 hM.df.nd;have hM':Mem M fr Z J ⟨env,h.set d none,defs⟩:=by
   refine⟨hM.vr,hM.sz,hM.er,⟨fun U s ao q=>?_,hM.hr.sep,fun x hx hF=>?_,by rw[fB];exact hM.hr.le,hM.hr.gl⟩,nd.2,fun e he=>?_,fun e he=>hM.df.sep e (aB _ he)⟩;·obtain⟨b,hp,x1,x2,x3,x4⟩:=hM.hr.at' U s ao q;refine⟨b,hp,x1,x2,x3,fun p hp'=>?_⟩;obtain⟨y1,y2,y3⟩:=x4 p hp';have:p.1≠d:=hM.df.sep d (by simp) _ _ _ _ q x2 p hp';exact⟨by rw[fG,if_neg this];exact y1,by rw[fB];exact y2,y3⟩
   .rw[fG];split
    .rename_i e;subst e;rcases d3 with q|q
     .exact absurd q hF
     .omega
    .exact hM.hr.frame x hx hF
   .obtain⟨e1,e2,e3⟩:=hM.df.at' e (aB _ he);have:e≠d:=fun q=>by subst q;exact nd.1 he
    exact⟨by rw[fG,if_neg this];exact e1,by rw[fB];exact e2,e3⟩
  obtain⟨h2,a,b⟩:=Mem.take hM';have d1:h.tr.get d=some .deferred:=d1;exact⟨h2,by simp only[kR,d1];exact a,b⟩
theorem Ji {G:Γ}(hM:Mem M fr Z J st){t:Tmp}{ty:TypeId}{a:A}(h:MC G J t ty=some a):∃ r,jT (G.ty ty) st.h (st.env.tr.get t)=some r/\AV Z a r:=by
 unfold MC at h;split at h;case h_2=>cases h
 rename_i U o ty h1 h2;split at h;case h_2=>cases h
 rename_i s ro t l hb;split at h;case h_2=>cases h
 rename_i q;rw[T.beq_true] at q;obtain⟨v,v1,v2⟩:=hM.er _ _ h1;cases v2 with
 |p hU ho=>
  rename_i b off;obtain⟨b',n,pat,tr,ob,x1,x2,x3,cr,x4⟩:=hM.block hb;rw[hU] at x1;cases x1;obtain⟨m,m1,m2⟩:=ho;have:off=o.o:=by rw[m2,q];omega
  subst this;obtain⟨r,r1,r2⟩:=iC hM.vr.z0 h cr;refine⟨r,?_,r2⟩;rw[v1,h2];simp only[jT,x4];cases ro<;>(simp only at x3;rw[x3];exact r1)
theorem Ap {G:Γ}(hM:Mem M fr Z J st):∀ {l:List ResultVar} {r:List A},Ir G J l=some r->∃ vs,eX (nF G st.h st.env) l=some vs/\AVs Z r vs
 |[],r,q=>by cases q;exact⟨[],rfl,.nil⟩
 |x :: l,r,q=>by
  cases x with
  |cell a t=>
   simp only[Ir] at q;split at q;·rename_i a r' h1 h2;cases q;obtain⟨v,v1,v2⟩:=Ji hM h1;obtain⟨vs,w1,w2⟩:=Ap hM h2;exact⟨v :: vs,by simp only[eX,nF,v1,w1],.cons v2 w2⟩
   .cases q
  |tmp t=>
   simp only[Ir] at q;split at q;·rename_i a r' h1 h2;cases q;obtain⟨v,v1,v2⟩:=hM.er _ _ h1;obtain⟨vs,w1,w2⟩:=Ap hM h2;exact⟨v :: vs,by simp only[eX,nF,v1,w1],.cons v2 w2⟩
   .cases q
theorem F5 {G:Γ}{fn:Func}(hM:Mem M fr Z J st){r:List A}(q:Ir G J fn.results.toList=some r):∃ v,jK G st.h st.env fn=some v/\AV Z (KH r) v:=by
 obtain⟨vs,a,b⟩:=Ap hM q;unfold jK;rw[a];cases b with
 |nil=>exact⟨_,rfl,.tp .nil⟩
 |cons x y=>
  cases y with
  |nil=>exact⟨_,rfl,x⟩
  |cons z w=>exact⟨_,rfl,.tp (.cons x (.cons z w))⟩
end
open Classical in
noncomputable def RU (c:Code)(rd:Option Nat)(fn:FuncId)(st:St)(x:Xx)(st':St):EvC:=fun c1 rd1 fn1 st1=>if c1=c/\rd1=rd/\fn1=fn/\st1=st then some (x,st') else none
theorem MJ {P:Program}{c:Code}{rd:Option Nat}{fn:FuncId}{st:St}{x:Xx}{st':St}(h:Run P c rd st x st'):Lf P (RU c rd fn st x st'):=fun c1 rd1 fn1 st1 x1 st1' he _=>by
 unfold RU at he;split at he;·rename_i e;obtain⟨rfl,rfl,rfl,rfl⟩:=e;cases he;exact h
 .cases he
section
variable {P:Program}{G:Γ}(hG:GOk P G)(hcodes:pH G)
theorem Cq (hG:GOk P G)(hcodes:pH G){f:FuncId}{fn:Func}{c:Code}(hf:G.funcs.get f=some fn)(hb:fn.body=some c){args:List V}{h h2:H}{v:V}{x:Xx}{st':St}(hn:args.length<=fn.ntmps)
  (hr:Run P c none ⟨⟨fn.ntmps,fT 0 args .leaf⟩,h,[]⟩ x st')(hx:∀ id,x≠.exit id)(ht:kR st'.defs st'.h=some h2)(hv:jK G h2 st'.env fn=some v):iW P (.fn f args) h v h2:=fun s Y w hT hS=>by
 obtain⟨cargs,ha,rfl⟩:=hT;obtain⟨f1,f2⟩:=hG.funcs f fn hf;rw[fE f1 f2 hb];refine fun n=>sU (G:=G) hG (MJ (fn:=f) hr) f1 hb (hcodes f fn c hf hb) ?_ ha hS n;unfold rC;rw[show Nat.ble args.length fn.ntmps=true from aH hn];simp only;unfold RU;rw[if_pos ⟨rfl,rfl,rfl,rfl⟩];simp only;cases x with
 |exit id=>exact absurd rfl (hx id)
 |normal=>simp only[ht,hv]
 |ret=>simp only[ht,hv]
end
section
variable {P:Program}{B:TH}{cf:CF}(hG:GOk P cf.G)(hcodes:pH cf.G)(hcon:∀ f cn,cn∈cf.con f->fP P (Th B cf.inv) f cn)(hhand:fR B P cf)
theorem vB (hG:GOk P cf.G)(hcodes:pH cf.G)(hcon:∀ f cn,cn∈cf.con f->fP P (Th B cf.inv) f cn)(hhand:fR B P cf):∀ n,qn P (Th B cf.inv) (qH cf n)
 |0=>fun _ _ _ _ h=>by cases h
 |n+1=>fun f args J K h fr Z st vs hM hvs=>by
  have ih:=vB hG hcodes hcon hhand n;simp only[qH] at h;split at h
  .obtain⟨fn,hf,h⟩:=eU h;obtain⟨c,hb,h⟩:=eU h;split at h;case h_2=>cases h
   rename_i hn;have hn:args.length<=fn.ntmps:=az hn;have hM1:=hM.own (sz:=fn.ntmps) (tm:=xQ 0 args .leaf) (tr:=fT 0 vs .leaf) (oq hvs ER.nil);obtain⟨x,st',r,_,_,Z',J',l1,hM2,h2⟩:=rj hG ih hhand 60 f false c _ _ (hcodes _ _ _ hf hb) (fun _=>⟨_,_,hf,hb,fJ _⟩) h _ none (fun _=>rfl) Z _ hM1;have hx:(∀ id,x≠.exit id)/\opt (Ir cf.G J' fn.results.toList) (fun r=>K (KH r) { J' with sz:=J.sz,tm:=J.tm })=true:=by
    cases x with
    |exit id=>cases h2
    |normal=>exact⟨(fun _ q=>nomatch q),h2⟩
    |ret=>exact⟨(fun _ q=>nomatch q),h2⟩
   obtain⟨hx,h2⟩:=hx;obtain⟨ra,r1,h2⟩:=eU h2;obtain⟨h3,t1,hM3⟩:=Mem.take (env:=st'.env) (h:=st'.h) (defs:=st'.defs) hM2;obtain⟨v,v1,v2⟩:=F5 (G:=cf.G) (fn:=fn) hM3 r1;exact⟨v,h3,Cq hG hcodes hf hb (by rw[hvs.len];exact hn) r hx t1 v1,Z',_,_,l1,hM.back l1 hM3,v2,h2⟩
  .obtain⟨Z1,J1,g1,hM1,h⟩:=iN h hM;obtain⟨cn,q1,q2⟩:=oA h;obtain⟨v,h',c1,Z2,J2,a,g2,m2,v2,k2⟩:=LW q2 (hcon f cn q1) hM1 (hvs.mono g1);obtain⟨Z3,J3,g3,m3,k3⟩:=iN k2 m2;exact⟨v,h',c1,Z3,J3,a,(g1.trans g2).trans g3,m3,v2.mono g3,k3⟩
theorem Fb (hG:GOk P cf.G)(hcodes:pH cf.G)(hcon:∀ f cn,cn∈cf.con f->fP P (Th B cf.inv) f cn)(hhand:fR B P cf){f:FuncId}{cn:CN}(h:fq cf f cn=true):fP P (Th B cf.inv) f cn:=fun Z vs hh n hl hM=>by
 unfold fq at h;obtain⟨fn,hf,h⟩:=eU h;obtain⟨c,hb,h⟩:=eU h;split at h;case h_2=>cases h
 rename_i hn;have hn:cn.args.length<=fn.ntmps:=az hn;have hM1:Mem (Th B cf.inv) (lB Z (fA cn n).mem hh) Z (fA cn fn.ntmps) ⟨⟨fn.ntmps,fT 0 vs .leaf⟩,hh,[]⟩:=⟨⟨hM.vr.ni,hM.vr.ns,hM.vr.nb,hM.vr.no,hM.vr.z0,hM.vr.zr⟩,rfl,hM.er,hM.hr,hM.df⟩;obtain⟨Z1,J1,l0,hM1',h⟩:=iN h hM1;obtain⟨x,st',r,_,_,Z',J',l1,hM2,h2⟩:=rj hG (vB hG hcodes hcon hhand 40) hhand 60 f false c _ _ (hcodes _ _ _ hf hb) (fun _=>⟨_,_,hf,hb,fJ _⟩) h _ none (fun _=>rfl) Z1 _ hM1';have l1:=l0.trans l1;have hx:(∀ id,x≠.exit id)/\opt (Ir cf.G J' fn.results.toList) (fun r=>lK cf.inv (cf.ge f (KH r)) 20 J' fun J'=>RS cn (KH r) J')=true:=by
  cases x with
  |exit id=>cases h2
  |normal=>exact⟨(fun _ q=>nomatch q),h2⟩
  |ret=>exact⟨(fun _ q=>nomatch q),h2⟩
 obtain⟨hx,h2⟩:=hx;obtain⟨ra,r1,h2⟩:=eU h2;obtain⟨h3,t1,hM3⟩:=Mem.take (env:=st'.env) (h:=st'.h) (defs:=st'.defs) hM2;obtain⟨v,v1,v2⟩:=F5 (G:=cf.G) (fn:=fn) hM3 r1;refine⟨v,h3,Cq hG hcodes hf hb (by rw[hl];exact hn) r hx t1 v1,?_⟩;obtain⟨Z4,J4,l4,hM4,h2⟩:=iN h2 hM3;have v2:=v2.mono l4;have l1:=l1.trans l4;have hM3:=hM4;clear hM4;generalize J4=J' at h2 hM3;generalize Z4=Z' at l1 hM3 v2;unfold RS at h2;simp only at h2;obtain⟨o,o1,o2⟩:=oA h2;simp only[ae,T.beq_true] at o2;obtain⟨o3,⟨e1,e2⟩,e3⟩:=o2;have hMr:Mem (Th B cf.inv) (lB Z (fA cn n).mem hh) Z' { J' with tm:=T.leaf.put 0 (some (KH ra)),sz:=1 } ⟨⟨1,T.leaf.put 0 (some v)⟩,h3,[]⟩:=by
  refine⟨⟨hM3.vr.ni,hM3.vr.ns,hM3.vr.nb,hM3.vr.no,hM3.vr.z0,hM3.vr.zr⟩,rfl,fun t a ht=>?_,hM3.hr,hM3.df⟩;rw[T.eL] at ht;show ∃ w,(T.leaf.put 0 (some v)).get t=some w/\_;rw[T.eL];split at ht;·rename_i e;cases ht;rw[if_pos e];exact⟨v,rfl,v2⟩
  .rw[T.eR] at ht;cases ht
 obtain⟨Zh,hps,m⟩:=G8 o3 hMr l1 hM.vr.z0 (by rw[e1];exact hM.vr.ni) (by rw[e2];have:=hM.vr.ns;rw[this];exact aI _) (by rw[e3];have:=hM.vr.nb;rw[this];exact aI _);have hH:Mem (Th B cf.inv) (lB Z (fA cn n).mem hh) Zh (Fc cn o) ⟨⟨1,T.leaf.put 0 (some v)⟩,h3,[]⟩:=
  Ar hMr m e1 e2 e3 (by have:=hM.vr.no;rw[this];exact aI _) hM.vr.z0 ⟨fun {x p} hp=>by simp[rows,T.eR] at hp,fun {x p} hp=>by simp[rows,T.eR] at hp,fun he=>by simp at he⟩ (fun t a ht=>by rw[T.eR] at ht;cases ht) (fun U s ao hb=>by rw[T.eR] at hb;cases hb) rfl
 refine⟨o,o1,Zh,m.le,hH,m.fs,?_⟩;obtain⟨w,w1,w2⟩:=hH.er 0 o.res (by show(lJ [(0,o.res)] .leaf).get 0=_;simp only[lJ,T.eL,if_pos]);have w1:(T.leaf.put 0 (some v)).get 0=some w:=w1;rw[T.eL,if_pos rfl] at w1;cases w1;exact w2
end
end Go.Ae

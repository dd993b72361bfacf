/- Regions, codes, calls, rounds; objects with their own memory; records of calls. -/
import Derived.Test.YtboaighhnghpdaaGreatDoorA
import Derived.RangeFuncLeaves
import Derived.RangeFuncCalls
import Derived.OrdersIn
import Derived.RangeFuncRecord
import Derived.RangeFuncNested
import Derived.Laws.Externs
import Derived.Below
import Derived.Maps.OwnSet
import Derived.Lib.SlKeysI
set_option linter.unusedVariables false
set_option linter.unusedSimpArgs false
set_option maxHeartbeats 1000000
namespace Go.Ev
variable {env:Env}{a:Act}
section
variable {Y:Ren}
theorem mu {v:Value}{x:V}(h:oD v=some x):Rel Y x v/\one v=true:=by
 unfold oD at h;split at h<;>try (cases h;done)
 .cases h;exact⟨.bool _,rfl⟩
 .cases h;exact⟨.int _ _,rfl⟩
 .rename_i s;cases h;have:=Rel.str (Y:=Y) s.data.toList;rw[aP] at this;exact⟨this,rfl⟩
 .cases h;exact⟨.nilp,rfl⟩
 .cases h;exact⟨.nils,rfl⟩
 .cases h;exact⟨.nilm,rfl⟩
 .cases h;exact⟨.nilf,rfl⟩
 .cases h;exact⟨.nili,rfl⟩
 .rename_i f a b;split at h
  .rename_i ha hb;cases h;have h1:a = #[]:=by rw[<- aP (xs:=a),ha]
   have h2:b = #[]:=by rw[<- aP (xs:=b),hb]
   subst h1;subst h2;exact⟨.func f rfl rfl (fun i v x q=>by simp at q) (fun i v x q=>by simp at q),rfl⟩
  .cases h
theorem tP {v:Value}{x:V}(h:ofValue v=some x):Rel Y x v:=by
 unfold ofValue at h;split at h
 .rename_i cs;split at h
  .rename_i l hl;cases h;obtain⟨a1,a2⟩:=fQ hl;obtain⟨pat,tr,q1,q2⟩:=Ld l;rw[q1];have get:∀ (i:Nat) (y:Value),cs[i]?=some y->∃ u,l[i]?=some u/\oD y=some u:=by
    intro i y hy;have hi:i<l.length:=by have:=(aD.1 hy).1;rw[a1,aT];exact this
    exact⟨l[i],ah hi,a2 i y _ (by rw[aM];exact hy) (ah hi)⟩
   refine .agg (by rw[a1,aT]) (fun i y hy=>?_) (fun i u y hu hy=>?_);·obtain⟨u,_,hu⟩:=get i y hy;exact(mu (Y:=Y) hu).2
   .obtain⟨u',h1,h2⟩:=get i y hy;have:=q2 i u hu;rw[h1] at this;cases this;exact(mu h2).1
  .cases h
 .exact(mu h).1
theorem jO (hg:ND Y)(he:iU Y env a.tmps):OpR Y env.get a.eval:=by
 intro x v h;cases x with
 |tmp t=>
  obtain⟨c,h1,h2⟩:=he.2 t v h;have:a.eval (.tmp t)=c:=by simp[Act.eval,bL,h1]
  rw[this];exact h2
 |const v'=>exact tP h
 |global g=>
  simp only[Env.get] at h;split at h;·rename_i hb;cases h;obtain⟨z,hz⟩:=hg g (gk hb);have:=Rel.ptr (Y:=Y) (b:=g) (o:=0) hz;exact this
  .cases h
 |func f=>cases h;exact .func f rfl rfl (fun i v x q=>by simp at q) (fun i v x q=>by simp at q)
theorem kZ {env':Env}{d:Option Tmp}{v:V}{c:Value}(he:iU Y env a.tmps)(hp:env.put d v=some env')(hv:Rel Y v c):iU Y env' (a.put d c).tmps:=by
 unfold Env.put at hp;cases d with
 |none=>cases hp;exact he
 |some t=>
  simp only at hp;split at hp
  .rename_i hb;have hb:=gk hb;cases hp;refine⟨by simp only[Act.put,dP];exact he.1,fun t' v' hg=>?_⟩;simp only[T.eL] at hg;simp only[Act.put];by_cases e:t'=t;·subst e;rw[if_pos rfl] at hg;cases hg;have hlt:t'<a.tmps.size:=bh hb he.1;exact⟨c,by simp[hlt],hv⟩
   .rw[if_neg e] at hg;obtain⟨c',h1,h2⟩:=he.2 t' v' hg;exact⟨c',by rw[bK (fun q=>e q.symm)];exact h1,h2⟩
  .cases hp
theorem gF (he:iU Y env a.tmps){ops:Array Oper}{o:Oper}{b:Bool}(h:gz ops env o=some b):Region.wanted o (yielded ops a.tmps)=b:=by
 unfold gz at h;unfold Region.wanted;split at h;·rename_i hg;cases h;simp[hg]
 .rename_i j want hg;split at h
  .rename_i p hp;split at h
   .rename_i d hd;have hp:ops[j]?=some p:=by simpa using hp
    split at h;·rename_i b' hb;cases h;obtain⟨c,h1,h2⟩:=he.2 d _ hb;cases h2;simp[hg,yielded,hp,hd,h1]
    .rename_i u hne hb;cases h;obtain⟨c,h1,h2⟩:=he.2 d _ hb;have:yielded ops a.tmps j=none:=by
      simp only[yielded,hp,Option.bind_some,hd,h1];cases h2<;>first
       |rfl
       |exact absurd rfl (hne _)
     simp[hg,this]
    .cases h
   .cases h
  .cases h
end
end Go.Ev
namespace Go.Ev
def Ret (R:Value->World->Prop):Ending->World->Prop:=fun e w=>∃ c,e=.returned c/\R c w
def jy (P:Program)(r:Result Next)(R:Value->World->Prop):Prop:=
 match r with
 |.ok (.value c) w'=>R c w'
 |.ok .skip w'=>R undef w'
 |.ok (.enter f args) w'=>∀ n,CallsIn Fence.wide n P f args w' (Ret R)
 |.ok (.round l f tmps assign body) w'=>∀ n,RoundIn Fence.wide n P l f tmps assign body w' (Ret R)
 |_=>False
def xu (F:Fence):Prop:=F=Fence.wide\/∃ l,F=Fence.wide.inRound l
theorem xu.fn {F:Fence}(h:xu F)(f:FuncId):F.fn f:=by rcases h with rfl|⟨l,rfl⟩<;>trivial
theorem xu.depth {F:Fence}(h:xu F):F.depth=none:=by rcases h with rfl|⟨l,rfl⟩<;>rfl
section
variable {P:Program}
theorem jy.mono {r:Result Next}{R R':Value->World->Prop}(h:jy P r R)(hr:∀ c w,R c w->R' c w):jy P r R':=by
 unfold jy at *;split<;>simp_all;·rename_i f args w';exact fun n=>(h n).mono fun e w'' ⟨c,a,b⟩=>⟨c,a,hr _ _ b⟩
 .exact fun n=>(h n).mono fun e w'' ⟨c,a,b⟩=>⟨c,a,hr _ _ b⟩
theorem jy.upon {F:Fence}(hF:xu F){n:Nat}{o:Oper}{a:Act}{r:Result Next}{R:Value->World->Prop}{next:Act->World->Prop}{Q:Exit->Act->World->Prop}(h:jy P r R)
  (hn:∀ c w',R c w'->next (a.put o.dst c) w'):o.uponIn F n P a next Q r:=by
 have hd:=hF.depth;unfold jy at h;split at h;·exact hn _ _ h
 .exact hn _ _ h
 .rename_i f args w';refine⟨fun q=>by rw[hd] at q;simp at q,?_⟩;have h1:CallsIn F (n - 1) P f args w' (Ret R):=by
   rcases hF with rfl|⟨l,rfl⟩;·exact h _
   .exact CallsIn.inRound l (h _)
  exact h1.mono fun e w'' ⟨c,e1,e2⟩=>by subst e1;exact hn _ _ e2
 .rename_i l f tmps assign body w';refine⟨fun q=>by rw[hd] at q;simp at q,?_⟩;have h1:RoundIn F (n - 1) P l f tmps assign body w' (Ret R):=by
   rcases hF with rfl|⟨l,rfl⟩;·exact h _
   .exact h _
  exact h1.mono fun e w'' ⟨c,e1,e2⟩=>by subst e1;exact hn _ _ e2
 .exact h.elim
def Post (Y:Ren)(h:H)(w:World)(v:V)(h':H):Value->World->Prop:=fun c w'=>∃ Y',Sim Y' h' w'/\Ext Y h w Y' h' w'/\Rel Y' v c
def NI (Y:Ren)(t:Tgt)(s:Sem Next):Prop:=
 match t with
 |.fn f args=>∃ cargs:Array Value,fH Y args cargs.toList/\s=callFunc f cargs
 |.yield l args=>∃ (B d z:Nat) (cargs:Array Value),Y l=some (B,d,z)/\fH Y args cargs.toList/\s=Instr.yield B cargs
def pT (P:Program)(call:ic):Prop:=∀ (t:Tgt) (s:Sem Next) (Y:Ren) (h:H) (w:World) (v:V) (h':H),NI Y t s->Sim Y h w->call t h=some (v,h')->jy P (s.run P w) (Post Y h w v h')
end
section
variable {P:Program}{G:Γ}(hG:GOk P G){Y:Ren}
theorem Dh (name:String):∀ (l:List Method) (m:Method),Eb name l=some m->l.find? (fun m=>m.name == name)=some m
 |[],m,h=>by simp[Eb] at h
 |x :: l,m,h=>by
  simp only[Eb] at h;split at h;·rename_i hb;cases h;have:=of_decide_eq_true hb;simp[this]
  .rename_i hb;have hb:x.name≠name:=of_decide_eq_false hb;rw[dI];have:(x.name == name)=false:=by simpa using hb
   rw[this];exact Dh name l m h
theorem J9 (hG:GOk P G){e:Operand->Option V}{f:Operand->Value}(hef:OpR Y e f){o:Oper}{t:Tgt}(h:act G e o.op=.call (some t)):
  ∃ s,NI Y t s/\∀ w,(execOp f o).run P w=s.run P w:=by
 cases ho:o.op<;>rw[ho] at h<;>simp only[act,reduceCtorEq] at h;case makeMap t r=>cases r<;>simp at h
 case convert s d x=>split at h<;>cases h
 case call c=>
  unfold fX at h;split at h
  .
   rename_i x hc;simp only[Ac.call.injEq] at h;unfold wM at h;split at h
   .rename_i fn first captured args hx hargs
    cases h;have hr:=hef _ _ hx;have ha:=kX hef hargs;generalize hfx:f x=cf at hr;cases hr with
    |func _ a1 a2 a3 a4=>
     rename_i A B;refine⟨_,⟨(A++c.args.map f)++B,?_,rfl⟩,fun w=>?_⟩;·simp only[dz,cz];exact fH.append (fH.append ⟨by simpa using a1,fun i v y p q=>a3 i v y p (by simpa using q)⟩ ha) ⟨by simpa using a2,fun i v y p q=>a4 i v y p (by simpa using q)⟩
     .simp only[execOp,ho,resolve,hc,hfx,Deferred.ofValue,pure_bind,invoke]
   .rename_i l first cap args hx hargs
    cases h;have hr:=hef _ _ hx;have ha:=kX hef hargs;generalize hfx:f x=cf at hr;cases hr with
    |yield hb=>
     rename_i B d z;refine⟨_,⟨B,d,z,#[]++c.args.map f,hb,?_,rfl⟩,fun w=>?_⟩;·simpa using ha
     .simp only[execOp,ho,resolve,hc,hfx,Deferred.ofValue,pure_bind,invoke]
   .cases h
  .
   rename_i x name hc;simp only[Ac.call.injEq] at h;unfold sX at h;split at h
   .rename_i it u args hx hargs;split at h
    .rename_i ty hty;split at h
     .rename_i m hm;split at h
      .rename_i fn elem hp hfn he;cases h;have ht:=hG.types _ _ hty;have hr:=hef _ _ hx;have ha:=kX hef hargs;generalize hfx:f x=cf at hr;cases hr with
       |iface _ hu=>
        rename_i cu;refine⟨_,⟨#[cu]++c.args.map f,?_,rfl⟩,fun w=>?_⟩;·simp only[dz,cz];exact fH.cons hu ha
        .obtain⟨i,i1,i2,i3,_⟩:=ht.info;have hfind:i.methods.find? (fun m=>m.name == name)=some m:=by
          have:=Dh name _ _ hm;rw[<- i3] at this;rw[<- this,Array.find?_toList]
         have hpos:∃ k,P.types.size+Made.depth=k+1:=by
          have:0<Made.depth:=by decide
          exact⟨P.types.size+Made.depth - 1,by omega⟩
         obtain⟨k,hk⟩:=hpos;have hmeth:(method (P.types.size+Made.depth) it cu name).run P w=.ok (fn,cu) w:=by rw[hk];simp only[method,Sem.run_bind,typeInfo,run_program,Result.andThen_ok,i1,hfind,hp,follow,hfn,receiverAt,ht.run_underlying,he,Place.get,Sem.run_pure]
         have e2:(#[cu]++c.args.map f) = #[cu]++(#[Value.iface it cu]++c.args.map f).extract 1 (#[Value.iface it cu]++c.args.map f).size:=by apply Array.ext';simp;rw[List.take_of_length_le (by simp)]
         simp only[execOp,ho,resolve,hc,hfx,pure_bind,invoke];have e3:(#[Value.iface it cu]++c.args.map f)[0]?=some (.iface it cu):=by rw[dL (by simp)];rfl
         simp only[e3,callMethod,Sem.run_bind,run_program,Result.andThen_ok,hmeth];rw[<- e2]
      .cases h
     .cases h
    .cases h
   .cases h
  .rename_i b hb;unfold fh at h;split at h<;>cases h
end
section
variable {P:Program}{G:Γ}(hG:GOk P G){Y:Ren}
theorem oU (hG:GOk P G){call:ic}(hcall:pT P call){env:Env}{a:Act}{h h':H}{w:World}{o:Oper}{v:V}(hst:je G call env h o=some (v,h'))(hS:Sim Y h w)(he:iU Y env a.tmps)(ro:Option Nat):
  jy P ((o.semAt ro a.eval).run P w) (Post Y h w v h'):=by
 have hef:=jO hS.glob he;have hnd:∀ c,o.op≠.defer c:=fun c q=>by unfold je at hst;rw[q] at hst;simp[act] at hst
 rw[Oper.semAt_eq _ _ _ hnd];unfold je at hst;split at hst
 .rename_i x hact;split at hst;·cases hst;obtain⟨c,r,s⟩:=Nr hG hef hact;rw[s w];exact⟨Y,hS,Ext.refl _ _ _,r⟩
  .cases hst
 .rename_i f hact;split at hst;·rename_i x hf;cases hst;obtain⟨c,r,s⟩:=Qt hG hef hact hS hf;rw[s];exact⟨Y,hS,Ext.refl _ _ _,r⟩
  .cases hst
 .rename_i f hact;split at hst
  .rename_i obj x hf;cases hst;obtain⟨c,c',L,w',e1,e2,e3,e4,e5⟩:=Lq hG hef hact hS.fresh hf w;have e6:=HO hact hf;rw[e1];have hother:∀ B,B<w.heap.size->w'.heap[B]?=w.heap[B]?:=fun B hB=>by
    rw[e2.heap,cL,if_neg (by omega)]
   refine⟨Y.with h.next L,?_,?_,e5⟩;·exact hS.add (o':=obj) (L:=L) (c':=c') hS.fresh (by simp) (by simp) (fun x=>H.add_get h _ x) (eF e3.symm) (by rw[e2.heap,e3];simp) e4 hother e6
   .exact Ext.add (o':=obj) (L:=L) (aF _) (by simp) (fun x=>H.add_get h _ x) (eF e3.symm) (by rw[e2.heap];simp) hother e2.tape e2.os e2.output
  .cases hst
 .rename_i f hact;obtain⟨Y',c,w',e1,e2,e3,e4⟩:=Qn hG hef hact hS hst;rcases e1 with e1|⟨e1,rfl⟩
  .rw[e1];exact⟨Y',e2,e3,e4⟩
  .rw[e1];exact⟨Y',e2,e3,e4⟩
 .rename_i t hact;split at hst;·rename_i t;obtain⟨s,s1,s2⟩:=J9 (P:=P) hG hef hact;rw[s2];exact hcall t s Y h w v h' s1 hS hst
  .cases hst
theorem Bv (hG:GOk P G){call:ic}(hcall:pT P call){F:Fence}(hF:xu F){n:Nat}{ops:Array Oper}{Q:Exit->Act->World->Prop}:
  ∀ (rest:List Oper) (i:Nat),ops.toList.drop i=rest->∀ (Y:Ren) (env env':Env) (h h':H) (a:Act) (w:World),xn G call ops rest env h=some (env',h')->Sim Y h w->iU Y env a.tmps ->
   (∀ Y' a' w',Sim Y' h' w'->Ext Y h w Y' h' w'->iU Y' env' a'.tmps->a'.defers=a.defers->Q .normal a' w')->wpOpsIn F n P ops Q (List.range' i rest.length) a w
 |[],i,_,Y,env,env',h,h',a,w,hr,hS,he,hQ=>by simp only[xn] at hr;cases hr;exact hQ Y a w hS (Ext.refl _ _ _) he rfl
 |o :: rest,i,hi,Y,env,env',h,h',a,w,hr,hS,he,hQ=>by
  have hoi:ops[i]?=some o:=by
   have:ops.toList[i]?=some o:=by have:=bJ (xs:=ops.toList) (i:=i) (j:=0);rw[hi] at this;simpa using this.symm
   simpa using this
  have hi':ops.toList.drop (i+1)=rest:=by
   have:ops.toList.drop (i+1)=(ops.toList.drop i).drop 1:=by rw[List.drop_drop]
   rw[this,hi];rfl
  simp only[aU,eu,wpOpsIn,hoi];simp only[xn] at hr;split at hr
  .rename_i hw;rw[gF he hw,if_pos rfl];split at hr
   .rename_i v h1 hst;split at hr;·rename_i env1 hput;refine⟨fun f _=>hF.fn f,(oU hG hcall hst hS he F.round).upon hF fun c w1 hp=>?_⟩;obtain⟨Y1,p1,p2,p3⟩:=hp;have hle:=p2.le hS;refine Bv hG hcall hF rest (i+1) hi' Y1 env1 env' h1 h' _ w1 hr p1 (kZ (he.mono hle) hput p3) fun Y' a' w' q1 q2 q3 q4=>hQ Y' a' w' q1 (p2.trans q2) q3 ?_;rw[q4];cases o.dst<;>rfl
    .cases hr
   .cases hr
  .rename_i hw;rw[gF he hw];simp only[aW,if_false];split at hr;·rename_i env1 hput;refine⟨fun f _=>hF.fn f,?_⟩;refine Bv hG hcall hF rest (i+1) hi' Y env1 env' h h' _ w hr hS (kZ he hput .undef) fun Y' a' w' q1 q2 q3 q4=>hQ Y' a' w' q1 q2 q3 ?_;rw[q4];cases o.dst<;>rfl
   .cases hr
  .cases hr
end
variable {ty:Option TY}
section
variable {e e':Operand->Option V}
theorem gZ:∀ {l:List Operand},(∀ x∈l,e x=e' x)->eX e l=eX e' l
 |[],_=>rfl
 |x :: l,h=>by simp only[eX,h x (by simp),gZ (l:=l) fun y hy=>h y (by simp[hy])]
theorem nG {pl:Nat->Option (Nat×Nat)}{n:Nat}:∀ {l:List (Nat×Operand)} {tr:T V},(∀ x∈l.map (·.2),e x=e' x)->qM pl e n l tr=qM pl e' n l tr
 |[],tr,_=>rfl
 |p :: l,tr,h=>by
  simp only[qM,h p.2 (by simp)];repeat' split
  all_goals first
   |rfl
   |exact nG fun y hy=>h y (by simp at hy ⊢;right;exact hy)
theorem sZ {x:Option Operand}{d hi:Nat}(h:∀ y∈x.toList,e y=e' y):bnd x e d hi=bnd x e' d hi:=by
 cases x with
 |none=>rfl
 |some y=>simp only[bnd,h y (by simp)]
theorem uT {lo hi mx:Option Operand}{l c:Nat}(h1:∀ y∈lo.toList,e y=e' y)(h2:∀ y∈hi.toList,e y=e' y)(h3:∀ y∈mx.toList,e y=e' y):wJ e lo hi mx l c=wJ e' lo hi mx l c:=by
 unfold wJ;rw[sZ h3];split
 .rw[sZ h2];split;·rw[sZ h1]
  .rfl
 .rfl
theorem yO {G:Γ}{x:Operand}{lo hi mx:Option Operand}(h0:e x=e' x)(h1:∀ y∈lo.toList,e y=e' y)(h2:∀ y∈hi.toList,e y=e' y)(h3:∀ y∈mx.toList,e y=e' y):
  gN G ty e x lo hi mx=gN G ty e' x lo hi mx:=by
 have hb:∀ l c,wJ e lo hi mx l c=wJ e' lo hi mx l c:=fun l c=>uT h1 h2 h3;have hb':∀ l c,wJ e lo hi none l c=wJ e' lo hi none l c:=fun l c=>uT h1 h2 fun y hy=>by simp at hy
 unfold gN;rw[h0];simp only[hb,hb']
theorem yP {G:Γ}{l:List (Nat×Operand)}(h:∀ x∈l.map (·.2),e x=e' x):qv G ty e l=qv G ty e' l:=by
 unfold qv;split
 .split;·rw[nG h]
  .rfl
 .rfl
theorem pN {G:Γ}{n:Nat}{l:List (Nat×Operand)}(h:∀ x∈l.map (·.2),e x=e' x):fD G ty n e l=fD G ty n e' l:=by
 funext id;unfold fD;split
 .split
  .split
   .split;·rw[nG h]
    .rfl
   .rfl
  .rfl
 .rfl
theorem Bb {fn:Fn}{a b:List Operand}(ha:∀ x∈a,e x=e' x)(hb:∀ x∈b,e x=e' x):A8 e fn a b=A8 e' fn a b:=by unfold A8;rw[gZ ha,gZ hb]
theorem qN {G:Γ}{b:Builtin}{ts:List TypeId}{args:List Operand}(h:∀ x∈args,e x=e' x):fh G e b ts args=fh G e' b ts args:=by
 unfold fh;split<;>first
  |rfl
  |(rw[gZ h])
  |(rename_i x y;rw[h x (by simp),h y (by simp)])
  |(rename_i x;rw[h x (by simp)])
theorem Hu {G:Γ}{op:Op}(h:∀ x∈HT op,e x=e' x):act G e op=act G e' op:=by
 cases op<;>simp only[HT,aq,aA,or_false,forall_eq_or_imp,forall_eq] at h;case build t ps=>simp only[act,yP h]
 case buildSlice t n ps=>simp only[act,pN h]
 case makeFunc fn a b=>simp only[act];rw[Bb (fun x hx=>h x (by simp[hx])) (fun x hx=>h x (by simp[hx]))]
 case slice t x lo hi mx=>simp only[act];rw[yO h.1 (fun y hy=>h.2 y (by simp[hy])) (fun y hy=>h.2 y (by simp[hy])) (fun y hy=>h.2 y (by simp[hy]))]
 case call c=>
  simp only[act,fX];split;·rename_i f hc;rw[hc] at h;simp only[aK,aq,aA,or_false] at h;rw[h f (.inl rfl),gZ fun x hx=>h x (.inr hx)]
  .rename_i r name hc;rw[hc] at h;simp only[aK,aq,aA,or_false] at h;rw[h r (.inl rfl),gZ fun x hx=>h x (.inr hx)]
  .rename_i b hc;rw[hc] at h;simp only[cN] at h;exact qN h
 all_goals simp only[act,h]
end
end Go.Ev
namespace Go.Ev
section
variable {Y:Ren}
theorem jt {eq:V->V->Bool}:∀ {a b:List V},js eq a b=true->b.length=a.length/\∀ (i:Nat) (y:V),b[i]?=some y->∃ x,a[i]?=some x/\eq x y=true
 |[],[],_=>⟨rfl,fun i y h=>by simp at h⟩
 |x :: a,y :: b,h=>by
  simp only[js,ae] at h;obtain⟨h1,h2⟩:=jt h.2;refine⟨by simp[h1],fun i z hz=>?_⟩;cases i with
  |zero=>simp at hz;subst hz;exact⟨x,rfl,h.1⟩
  |succ i=>simp at hz;obtain⟨u,u1,u2⟩:=h2 i z hz;exact⟨u,by simpa using u1,u2⟩
 |[],_ :: _,h=>by simp[js] at h
 |_ :: _,[],h=>by simp[js] at h
theorem lX {eq:V->V->Bool}{n:Nat}{pat pat':List V}{tr tr':T V}:∀ {k i:Nat},jf eq n pat tr pat' tr' i k=true->∀ j,i<=j->j<i+k->∃ x y,cell n pat tr j=some x/\cell n pat' tr' j=some y/\eq x y=true
 |0,i,_,j,h1,h2=>by omega
 |k+1,i,h,j,h1,h2=>by
  simp only[jf] at h;split at h
  .rename_i x y hx hy;simp only[ae] at h;by_cases e:j=i;·subst e;exact⟨x,y,hx,hy,h.1⟩
   .exact lX h.2 j (by omega) (by omega)
  .cases h
theorem gU:∀ {d:Nat} {x y:V} {c:Value},V.beq d x y=true->Rel Y x c->Rel Y y c
 |0,x,y,c,h,_=>by simp[V.beq] at h
 |d+1,x,y,c,h,hr=>by
  simp only[V.beq] at h;split at h;·simp at h;subst h;exact hr
  .simp only[ae,decide_eq_true_eq] at h;obtain⟨rfl,h⟩:=h;rw[kC] at h;simp at h;subst h;exact hr
  .simp at h;subst h;exact hr
  .exact hr
  .simp only[ae,T.beq_true] at h;obtain⟨rfl,rfl⟩:=h;exact hr
  .exact hr
  .simp only[ae,T.beq_true,decide_eq_true_eq] at h;obtain⟨⟨⟨rfl,rfl⟩,rfl⟩,rfl⟩:=h;exact hr
  .exact hr
  .rw[T.beq_true] at h;subst h;exact hr
  .simp only[ae,decide_eq_true_eq] at h;obtain⟨⟨rfl,h1⟩,h2⟩:=h;obtain⟨a1,a2⟩:=jt h1;obtain⟨b1,b2⟩:=jt h2;cases hr with
   |func f q1 q2 q3 q4=>
    refine .func f (by rw[q1,a1]) (by rw[q2,b1]) (fun i v x hv hx=>?_) (fun i v x hv hx=>?_);·obtain⟨u,u1,u2⟩:=a2 i v hv;exact gU u2 (q3 i u x u1 hx)
    .obtain⟨u,u1,u2⟩:=b2 i v hv;exact gU u2 (q4 i u x u1 hx)
   |yield hb=>have e1:=aO.1 a1;have e2:=aO.1 b1;subst e1;subst e2;exact .yield hb
  .exact hr
  .simp only[ae,T.beq_true] at h;obtain⟨rfl,h⟩:=h;cases hr with
   |iface _ q=>exact .iface _ (gU h q)
  .exact hr
  .simp only[ae,T.beq_true] at h;obtain⟨rfl,h⟩:=h;obtain⟨cs,rfl,a⟩:=hr.ar;refine .agg a.size a.one fun i v x hv hx=>?_;obtain⟨u,y,u1,u2,u3⟩:=lX h i (cW _) (by have:=eT hv;omega);rw[hv] at u2;cases u2;exact gU u3 (a.rel i u x u1 hx)
  .obtain⟨a1,a2⟩:=jt h;cases hr with
   |tuple q1 q2=>refine .tuple (by rw[q1,a1]) fun i v x hv hx=>?_;obtain⟨u,u1,u2⟩:=a2 i v hv;exact gU u2 (q2 i u x u1 hx)
  .cases h
end
theorem fS (B:Bs)(m:Nat):∀ (l:List (Nat×Nat×O)),(hv B m l).next=B.h.next
 |[]=>rfl
 |a :: l=>by
  simp only[hv];split;·rw[H.J7,fS B m l]
  .exact fS B m l
noncomputable def tc (G:Γ)(call:ic)(ops:Array Oper)(n0:Nat)(p:Oper×Nat)(i:Nat)(s:DS):Option DS:=
 match gz ops s.env p.1 with
 |some true=>wN G call n0 i p.2 s.env s.base s.eK s.eY s.reads p.1
 |some false=>match s.env.put p.1.dst (.tuple []) with
  |some env'=>some ⟨env',s.base,s.eK,s.eY,s.reads⟩
  |none=>none
 |none=>none
theorem uU {G:Γ}{call:ic}{ops:Array Oper}{n0:Nat}:∀ {l:List (Oper×Nat)} {i:Nat} {s s':DS},yL G call ops n0 l i s=some s' ->
  ∃ f:Nat->DS,f i=s/\f (i+l.length)=s'/\∀ k p,l[k]?=some p->tc G call ops n0 p (i+k) (f (i+k))=some (f (i+k+1))
 |[],i,s,s',h=>by simp only[yL] at h;cases h;exact⟨fun _=>s,rfl,rfl,fun k p q=>by simp at q⟩
 |p :: rest,i,⟨env,base,eK,eY,reads⟩,s',h=>by
  have main:∀ s1,tc G call ops n0 p i ⟨env,base,eK,eY,reads⟩=some s1->yL G call ops n0 rest (Nat.succ i) s1=some s' ->
    ∃ f:Nat->DS,f i=⟨env,base,eK,eY,reads⟩/\f (i+(p :: rest).length)=s'/\∀ k q,(p :: rest)[k]?=some q->tc G call ops n0 q (i+k) (f (i+k))=some (f (i+k+1)):=by
   intro s1 h1 h2;obtain⟨f,f1,f2,f3⟩:=uU h2;refine⟨fun j=>if j=i then ⟨env,base,eK,eY,reads⟩ else f j,by simp,?_,fun k q hq=>?_⟩;·simp only[aU];rw[if_neg (by omega),show i+(rest.length+1)=Nat.succ i+rest.length by omega];exact f2
   .cases k with
    |zero=>simp at hq;subst hq;simp only[bX,if_true];rw[if_neg (by omega)];rw[h1];rw[<- f1]
    |succ k=>have:=f3 k q (by simpa using hq);simp only;rw[if_neg (by omega),if_neg (by omega),show i+(k+1)=Nat.succ i+k by omega];exact this
  simp only[yL] at h;split at h
  .rename_i hw;split at h;·rename_i s1 hs;exact main s1 (by simp only[tc,hw];exact hs) h
   .cases h
  .rename_i hw;split at h;·rename_i env1 he;exact main _ (by simp only[tc,hw,he]) h
   .cases h
  .cases h
theorem tf (m i:Nat):bit m i=m.testBit i:=by unfold bit;rw[bU,T.beq_true];show m / 2 ^ i % 2=1↔_;rw[Nat.testBit_eq_decide_div_mod_eq];simp
theorem Hy (a b i:Nat):bit (Nat.lor a b) i=(bit a i || bit b i):=by rw[tf,tf,tf];exact Nat.testBit_or ..
theorem Hz (a i:Nat):bit (Nat.pow 2 a) i=decide (a=i):=by rw[tf];exact Nat.testBit_two_pow
theorem gQ (i:Nat):bit 0 i=false:=by rw[tf];exact Nat.zero_testBit i
theorem tj (tab:T Nat)(j:Nat):∀ (l:List Edge),bit (yK tab l) j=true↔∃ e∈l,Region.binds .any e=true/\(e.on=j\/∃ m,tab.get e.on=some m/\bit m j=true)
 |[]=>by simp[yK,gQ]
 |e :: l=>by
  simp only[yK];cases hb:Region.binds .any e with
  |false=>simp only;rw[tj tab j l];simp[hb]
  |true=>
   simp only;rw[Hy,Hy,Hz,bf,bf,tj tab j l];simp only[aq,exists_eq_or_imp,hb,true_and];cases h:tab.get e.on with
   |none=>simp[gQ]
   |some m=>simp
theorem rD:∀ (l:List Oper) (i:Nat) (tab:T Nat),(nW l i tab).length=l.length
 |[],_,_=>rfl
 |o :: l,i,tab=>by simp only[nW,aU,rD l]
theorem oL:∀ (l:List Oper) (i:Nat) (tab:T Nat),(∀ k,i<=k->tab.get k=none)->∀ k o m,(nW l i tab)[k]?=some (o,m) ->
  l[k]?=some o/\∀ j,bit m j=true↔∃ e∈o.after.toList,Region.binds .any e=true/\(e.on=j\/∃ m',(tab.get e.on=some m'\/∃ q o',e.on=i+q/\q<k/\(nW l i tab)[q]?=some (o',m'))/\bit m' j=true)
 |[],i,tab,_,k,o,m,h=>by simp[nW] at h
 |x :: l,i,tab,ht,k,o,m,h=>by
  simp only[nW] at h ⊢;cases k with
  |zero=>
   simp at h;obtain⟨rfl,rfl⟩:=h;refine⟨rfl,fun j=>?_⟩;rw[tj];constructor;·rintro⟨e,e1,e2,e3⟩;exact⟨e,e1,e2,e3.imp id fun⟨m',a,b⟩=>⟨m',.inl a,b⟩⟩
   .rintro⟨e,e1,e2,e3⟩;refine⟨e,e1,e2,e3.imp id fun⟨m',a,b⟩=>⟨m',?_,b⟩⟩;rcases a with a|⟨q,o',_,hq,_⟩;·exact a
    .omega
  |succ k=>
   have hk:(nW l (Nat.succ i) (tab.put i (some (yK tab x.after.toList))))[k]?=some (o,m):=by simpa using h
   obtain⟨h1,h2⟩:=oL l (Nat.succ i) _ (fun k' hk'=>by rw[T.ia _ _ (by omega)];exact ht k' (by omega)) k o m hk;refine⟨by simpa using h1,fun j=>?_⟩;rw[h2];constructor
   .rintro⟨e,e1,e2,e3⟩;refine⟨e,e1,e2,e3.imp id fun⟨m',a,b⟩=>⟨m',?_,b⟩⟩;rcases a with a|⟨q,o',q1,q2,q3⟩
    .rw[T.eL] at a;split at a;·rename_i he;cases a;exact .inr ⟨0,x,by omega,by omega,rfl⟩
     .exact .inl a
    .exact .inr ⟨q+1,o',by omega,by omega,by simpa using q3⟩
   .rintro⟨e,e1,e2,e3⟩;refine⟨e,e1,e2,e3.imp id fun⟨m',a,b⟩=>⟨m',?_,b⟩⟩;rcases a with a|⟨q,o',q1,q2,q3⟩;·refine .inl ?_;rw[T.ia _ _ (fun he=>by rw[he,ht i (aF _)] at a;cases a)];exact a
    .cases q with
     |zero=>simp at q3;refine .inl ?_;rw[q1,bX,T.zab,<- q3.2]
     |succ q=>exact .inr ⟨q,o',by omega,by omega,by simpa using q3⟩
variable {k:Nat}
noncomputable def msk (ops:Array Oper)(k:Nat):Nat:=match (nW ops.toList 0 .leaf)[k]? with
 |some p=>p.2
 |none=>0
section
variable {ops:Array Oper}
theorem tn {o:Oper}(ho:ops[k]?=some o):(nW ops.toList 0 .leaf)[k]?=some (o,msk ops k):=by
 have hl:k<(nW ops.toList 0 .leaf).length:=by rw[rD,aT];exact(aD.1 ho).1
 have h1:(nW ops.toList 0 .leaf)[k]?=some (nW ops.toList 0 .leaf)[k]:=ah hl;generalize hp:(nW ops.toList 0 .leaf)[k]=p at h1;obtain⟨o',m⟩:=p;have:=(oL ops.toList 0 .leaf (fun _ _=>rfl) k o' m h1).1;have:ops[k]?=some o':=by simpa using this
 rw[ho] at this;cases this;simp only[msk,h1]
theorem Nu {p:Oper×Nat}(h:(nW ops.toList 0 .leaf)[k]?=some p):ops[k]?=some p.1/\p.2=msk ops k:=by obtain⟨o,m⟩:=p;have h1:=(oL ops.toList 0 .leaf (fun _ _=>rfl) k o m h).1;exact⟨by simpa using h1,by simp only[msk,h]⟩
theorem wQ {o:Oper}(ho:ops[k]?=some o)(j:Nat):bit (msk ops k) j=true↔∃ e∈o.after.toList,Region.binds .any e=true/\(e.on=j\/e.on<k/\bit (msk ops e.on) j=true):=by
 rw[(oL ops.toList 0 .leaf (fun _ _=>rfl) k o _ (tn ho)).2 j];constructor
 .rintro⟨e,e1,e2,e3⟩;refine⟨e,e1,e2,e3.imp id ?_⟩;rintro⟨m',a|⟨q,o',q1,q2,q3⟩,b⟩;·simp[T.get] at a
  .rw[aI] at q1;subst q1;have:=(Nu q3).2;simp only at this;subst this;exact⟨q2,b⟩
 .rintro⟨e,e1,e2,e3⟩;refine⟨e,e1,e2,e3.imp id ?_⟩;rintro⟨hlt,hb⟩;have hl:e.on<ops.size:=dF hlt (aD.1 ho).1;exact⟨_,.inr ⟨e.on,ops[e.on],by omega,hlt,tn (bq hl)⟩,hb⟩
theorem C0 {as:List (Oper×Nat)}{os:List Oper}:∀ {l:List (Oper×Nat)} {i:Nat},zam as os l i=true->∀ (k:Nat) (p:Oper×Nat),l[k]?=some p->Oy as os p.1 p.2 (i+k)=true
 |[],i,_,k,p,h=>by simp at h
 |q :: l,i,h,k,p,hk=>by
  simp only[zam,ae] at h;cases k with
  |zero=>simp at hk;subst hk;exact h.1
  |succ k=>have:=C0 h.2 k p (by simpa using hk);rw[show i+(k+1)=Nat.succ i+k by omega];exact this
theorem nH {t:Tmp}:∀ {l:List Oper} {i:Nat},mj t l i=none->∀ (k:Nat) (o:Oper),l[k]?=some o->o.dst≠some t
 |[],_,_,k,o,h=>by simp at h
 |x :: l,i,h,k,o,hk=>by
  simp only[mj] at h;have rest:mj t l (Nat.succ i)=none/\x.dst≠some t:=by
   split at h
   .rename_i d hd;split at h;·cases h
    .rename_i hb;refine⟨h,fun q=>?_⟩;rw[hd] at q;cases q;simp at hb
   .rename_i hd;exact⟨h,fun q=>by rw[hd] at q;cases q⟩
  cases k with
  |zero=>simp at hk;subst hk;exact rest.2
  |succ k=>exact nH rest.1 k o (by simpa using hk)
theorem tq {t:Tmp}:∀ {l:List Oper} {i j:Nat},mj t l i=some j->∃ k o,j=i+k/\l[k]?=some o/\o.dst=some t
 |[],_,_,h=>by simp[mj] at h
 |x :: l,i,j,h=>by
  simp only[mj] at h;have go:mj t l (Nat.succ i)=some j->∃ k o,j=i+k/\(x :: l)[k]?=some o/\o.dst=some t:=fun h=>by obtain⟨k,o,a,b,c⟩:=tq h;exact⟨k+1,o,by omega,by simpa using b,c⟩
  split at h
  .rename_i d hd;split at h;·rename_i hb;cases h;rw[T.beq_true] at hb;subst hb;exact⟨0,x,rfl,rfl,hd⟩
   .exact go h
  .exact go h
theorem C1:∀ {l:List Oper},zal l=true->∀ (j k:Nat) (o o':Oper) (t:Tmp),l[j]?=some o->l[k]?=some o'->o.dst=some t->o'.dst=some t->j=k
 |[],_,j,k,o,o',t,h,_,_,_=>by simp at h
 |x :: l,h,j,k,o,o',t,hj,hk,ho,ho'=>by
  simp only[zal,ae] at h;have first:∀ (q:Nat) (o:Oper),l[q]?=some o->x.dst=some t->o.dst=some t->False:=by
   intro q o hq hx hd;have h1:=h.1;rw[hx] at h1;simp only at h1;split at h1;·rename_i hn;exact nH hn q o hq hd
   .cases h1
  cases j with
  |zero=>
   simp at hj;subst hj;cases k with
   |zero=>rfl
   |succ k=>exact(first k o' (by simpa using hk) ho ho').elim
  |succ j=>
   cases k with
   |zero=>simp at hk;subst hk;exact(first j o (by simpa using hj) ho' ho).elim
   |succ k=>rw[C1 h.2 j k o o' t (by simpa using hj) (by simpa using hk) ho ho']
structure Okr (ops:Array Oper):Prop where
 once:∀ (j k:Nat) (o o':Oper) (t:Tmp),ops[j]?=some o->ops[k]?=some o'->o.dst=some t->o'.dst=some t->j=k
 back:∀ (k:Nat) (o:Oper),ops[k]?=some o->∀ e∈o.after.toList,Region.binds .any e=true->e.on<k
 opnd:∀ (k:Nat) (o:Oper) (t:Tmp),ops[k]?=some o->.tmp t∈HT o.op->∀ (j:Nat) (o':Oper),ops[j]?=some o'->o'.dst=some t->bit (msk ops k) j=true\/j=k\/bit (msk ops j) k=true
 guard:∀ (k:Nat) (o:Oper) (j:Nat) (b:Bool),ops[k]?=some o->o.guard=some (j,b)->bit (msk ops k) j=true
theorem Bd (h:kV ops=true):Okr ops:=by
 simp only[kV,ae] at h;have once:=C1 h.1;have at_:∀ (k:Nat) (o:Oper),ops[k]?=some o->Oy (nW ops.toList 0 .leaf) ops.toList o (msk ops k) k=true:=fun k o ho=>by have:=C0 h.2 k _ (tn ho);rwa [aI] at this
 refine⟨fun j k o o' t a b c d=>once j k o o' t (by simpa using a) (by simpa using b) c d,fun k o ho e he hbd=>?_,fun k o t ho ht j o' hj hd=>?_,fun k o j b ho hg=>?_⟩;·have:=at_ k o ho;simp only[Oy,ae,bz] at this;have h4:=this.1.1 e he;rw[hbd] at h4;exact gk h4
 .have:=at_ k o ho;simp only[Oy,ae,bz] at this;have this':=this.1.2 _ ht;simp only[Qv] at this';split at this';·rename_i hn;exact absurd hd (nH hn j o' (by simpa using hj))
  .rename_i j' hs;obtain⟨q,o'',a,b,c⟩:=tq hs;rw[aI] at a;subst a;have:=once j' j o'' o' t b (by simpa using hj) c hd;subst this;have h3:=this';simp only[bf,T.beq_true] at h3;rcases h3 with(h3|h3)|h3
   .exact .inl h3
   .exact .inr (.inl h3)
   .refine .inr (.inr ?_);have ha:nth (nW ops.toList 0 .leaf) j'=some (o'',msk ops j'):=by
     rw[jb];exact tn (by simpa using b)
    rw[ha] at h3;exact h3
 .have:=at_ k o ho;simp only[Oy,ae] at this;have:=this.2;rw[hg] at this;exact this
variable (hr:Okr ops)
theorem HA (hr:Okr ops):∀ (k:Nat) (o:Oper),ops[k]?=some o->∀ j,bit (msk ops k) j=true->j<k:=by
 intro k;induction k using Nat.strongRecOn with
 |ind k ih=>
  intro o ho j hb;obtain⟨e,e1,e2,e3⟩:=(wQ ho j).1 hb;have hlt:=hr.back k o ho e e1 e2;rcases e3 with rfl|⟨_,e4⟩
  .exact hlt
  .have hl:e.on<ops.size:=dF hlt (aD.1 ho).1;exact dF (ih e.on hlt _ (bq hl) j e4) hlt
theorem yQ (hr:Okr ops):∀ (k:Nat) (o:Oper),ops[k]?=some o->∀ i j,bit (msk ops k) i=true->bit (msk ops i) j=true->bit (msk ops k) j=true:=by
 intro k;induction k using Nat.strongRecOn with
 |ind k ih=>
  intro o ho i j hi hj;obtain⟨e,e1,e2,e3⟩:=(wQ ho i).1 hi;have hlt:=hr.back k o ho e e1 e2;refine(wQ ho j).2 ⟨e,e1,e2,.inr ⟨hlt,?_⟩⟩;rcases e3 with rfl|⟨_,e4⟩
  .exact hj
  .have hl:e.on<ops.size:=dF hlt (aD.1 ho).1;exact ih e.on hlt _ (bq hl) i j e4 hj
end
end Go.Ev
namespace Go.Ev
variable {e e':Env}{d:Option Tmp}{v:V}{k:Nat}{t:Tmp}
inductive Nv (G:Γ)(call:ic)(ops:Array Oper)(n0 i m:Nat)(o:Oper)(s s':DS)(v:V):Prop
 |skip (hw:gz ops s.env o=some false) (hv:v=.tuple []) (h1:s'.base=s.base) (h2:s'.eK=s.eK) (h3:s'.eY=s.eY) (h4:s'.reads=s.reads)
 |val (hw:gz ops s.env o=some true) (ha:act G s.env.get o.op=.val (some v)) (h1:s'.base=s.base) (h2:s'.eK=s.eK) (h3:s'.eY=s.eY) (h4:s'.reads=s.reads)
 |rd (hw:gz ops s.env o=some true) (g:H->Option V) (ha:act G s.env.get o.op=.rd g) (h1:s'.base=s.base) (h2:s'.eK=s.eK) (h3:s'.eY=s.eY) (h4:s'.reads=(i,m,s.env,o.op,v) :: s.reads)
 |al (hw:gz ops s.env o=some true) (g:Nat->Option (O×V)) (obj:O) (ha:act G s.env.get o.op=.al g) (hg:g (n0+i)=some (obj,v)) (h1:s'.base=s.base) (h2:s'.eK=(i,n0+i,obj) :: s.eK) (h3:s'.eY=s.eY) (h4:s'.reads=s.reads)
 |ef (hw:gz ops s.env o=some true) (h:H) (hc:chain s.eY m=true) (hg:je G call s.env (hv s.base m s.eK) o=some (v,h)) (h1:s'.base=⟨m,h⟩) (h2:s'.eK=s.eK) (h3:s'.eY=(i,⟨m,h⟩) :: s.eY) (h4:s'.reads=s.reads)
theorem Be {G:Γ}{call:ic}{ops:Array Oper}{n0 i m:Nat}{o:Oper}{s s':DS}(h:tc G call ops n0 (o,m) i s=some s'):
  ∃ v,s.env.put o.dst v=some s'.env/\Nv G call ops n0 i m o s s' v:=by
 unfold tc at h;split at h
 .rename_i hw;unfold wN at h;split at h
  .rename_i x hact;split at h
   .rename_i v;split at h;·rename_i env' he;cases h;exact⟨v,he,.val hw hact rfl rfl rfl rfl⟩
    .cases h
   .cases h
  .rename_i f hact;split at h
   .rename_i v hf;split at h;·rename_i env' he;cases h;exact⟨v,he,.rd hw f hact rfl rfl rfl rfl⟩
    .cases h
   .cases h
  .rename_i f hact;split at h
   .rename_i obj v hf;split at h;·rename_i env' he;cases h;exact⟨v,he,.al hw f obj hact hf rfl rfl rfl rfl⟩
    .cases h
   .cases h
  .rename_i f hact;split at h
   .rename_i v h1 hc hf;split at h;·rename_i env' he;cases h;exact⟨v,he,.ef hw h1 hc (by simp only[je,hact];exact hf) rfl rfl rfl rfl⟩
    .cases h
   .cases h
  .rename_i t hact;split at h
   .rename_i t;split at h
    .rename_i v h1 hc hf;split at h;·rename_i env' he;cases h;exact⟨v,he,.ef hw h1 hc (by simp only[je,hact];exact hf) rfl rfl rfl rfl⟩
     .cases h
    .cases h
   .cases h
 .rename_i hw;split at h;·rename_i env' he;cases h;exact⟨_,he,.skip hw rfl rfl rfl rfl rfl⟩
  .cases h
 .cases h
structure Tr (G:Γ)(call:ic)(ops:Array Oper)(n0:Nat)(B0:Bs)(env0:Env)(f:Nat->DS)(V:Nat->V):Prop where
 okr:Okr ops
 zero:f 0=⟨env0,B0,[],[],[]⟩
 put:∀ k o,ops[k]?=some o->(f k).env.put o.dst (V k)=some (f (k+1)).env
 kind:∀ k o,ops[k]?=some o->Nv G call ops n0 k (msk ops k) o (f k) (f (k+1)) (V k)
theorem Env.yj (h:e.put d v=some e'):e'.sz=e.sz:=by
 unfold Env.put at h;cases d with
 |none=>cases h;rfl
 |some t=>
  simp only at h;split at h;·cases h;rfl
  .cases h
theorem Env.wR (h:e.put d v=some e')(t:Nat):e'.tr.get t=if d=some t then some v else e.tr.get t:=by
 unfold Env.put at h;cases d with
 |none=>cases h;simp
 |some t'=>
  simp only at h;split at h
  .cases h;simp only[T.eL,bW];by_cases q:t=t';·simp[q]
   .rw[if_neg q,if_neg (fun q'=>q q'.symm)]
  .cases h
theorem Env.Qi {e1:Env}(h:e.put d v=some e')(hs:e1.sz=e.sz):∃ e2,e1.put d v=some e2:=by
 unfold Env.put at h ⊢;cases d with
 |none=>exact⟨_,rfl⟩
 |some t'=>
  simp only at h ⊢;split at h;·rename_i hb;rw[hs,hb];exact⟨_,rfl⟩
  .cases h
section
variable {G:Γ}{call:ic}{ops:Array Oper}{n0:Nat}{B0:Bs}{env0:Env}{f:Nat->DS}{V:Nat->V}(ht:Tr G call ops n0 B0 env0 f V)
theorem Tr.op (hk:k<ops.size):∃ o,ops[k]?=some o:=⟨ops[k],bq hk⟩
theorem Tr.eK (ht:Tr G call ops n0 B0 env0 f V)(k i:Nat)(hk:i+k<=ops.size):∃ l,(f (i+k)).eK=l++(f i).eK/\∀ a∈l,i<=a.1/\a.1<i+k/\a.2.1=n0+a.1:=by
 induction k with
 |zero=>exact⟨[],rfl,by simp⟩
 |succ k ih=>
  obtain⟨l,l1,l2⟩:=ih (by omega);obtain⟨o,ho⟩:=Tr.op (ops:=ops) (k:=i+k) (by omega);have same:(f (i+k+1)).eK=(f (i+k)).eK->∃ l,(f (i+(k+1))).eK=l++(f i).eK/\∀ a∈l,i<=a.1/\a.1<i+(k+1)/\a.2.1=n0+a.1:=fun h=>⟨l,by rw[<- bA,h,l1],fun a ha=>by obtain⟨x,y,z⟩:=l2 a ha;exact⟨x,by omega,z⟩⟩;cases ht.kind _ o ho with
  |skip _ _ _ h=>exact same h
  |val _ _ _ h=>exact same h
  |rd _ _ _ _ h=>exact same h
  |ef _ _ _ _ _ h=>exact same h
  |al _ g obj _ _ _ h=>
   refine⟨(i+k,n0+(i+k),obj) :: l,by rw[<- bA,h,l1];rfl,fun a ha=>?_⟩;rcases aq.1 ha with rfl|ha
   .exact⟨by simp,by simp,rfl⟩
   .obtain⟨x,y,z⟩:=l2 a ha;exact⟨x,by omega,z⟩
theorem Tr.eY (ht:Tr G call ops n0 B0 env0 f V)(k i:Nat)(hk:i+k<=ops.size):∃ l,(f (i+k)).eY=l++(f i).eY/\∀ e∈l,i<=e.1/\e.1<i+k/\e.2.mask=msk ops e.1:=by
 induction k with
 |zero=>exact⟨[],rfl,by simp⟩
 |succ k ih=>
  obtain⟨l,l1,l2⟩:=ih (by omega);obtain⟨o,ho⟩:=Tr.op (ops:=ops) (k:=i+k) (by omega);have same:(f (i+k+1)).eY=(f (i+k)).eY->∃ l,(f (i+(k+1))).eY=l++(f i).eY/\∀ e∈l,i<=e.1/\e.1<i+(k+1)/\e.2.mask=msk ops e.1:=fun h=>⟨l,by rw[<- bA,h,l1],fun a ha=>by obtain⟨x,y,z⟩:=l2 a ha;exact⟨x,by omega,z⟩⟩;cases ht.kind _ o ho with
  |skip _ _ _ _ h=>exact same h
  |val _ _ _ _ h=>exact same h
  |rd _ _ _ _ _ h=>exact same h
  |al _ _ _ _ _ _ _ h=>exact same h
  |ef _ h _ _ _ _ h3=>
   refine⟨(i+k,⟨msk ops (i+k),h⟩) :: l,by rw[<- bA,h3,l1];rfl,fun a ha=>?_⟩;rcases aq.1 ha with rfl|ha
   .exact⟨by simp,by simp,rfl⟩
   .obtain⟨x,y,z⟩:=l2 a ha;exact⟨x,by omega,z⟩
theorem Tr.Ec (ht:Tr G call ops n0 B0 env0 f V){i:Nat}{b:Bs}{l0:List (Nat×Bs)}(he:(f (i+1)).eY=(i,b) :: l0)(k:Nat)(hk:i+1+k<=ops.size):
  ∃ l,(f (i+1+k)).eY=l++(f (i+1)).eY/\∀ e∈l,bit (msk ops e.1) i=true:=by
 induction k with
 |zero=>exact⟨[],rfl,by simp⟩
 |succ k ih=>
  obtain⟨l,l1,l2⟩:=ih (by omega);obtain⟨o,ho⟩:=Tr.op (ops:=ops) (k:=i+1+k) (by omega);have same:(f (i+1+k+1)).eY=(f (i+1+k)).eY->∃ l,(f (i+1+(k+1))).eY=l++(f (i+1)).eY/\∀ e∈l,bit (msk ops e.1) i=true:=fun h=>⟨l,by rw[<- bA,h,l1],l2⟩;cases ht.kind _ o ho with
  |skip _ _ _ _ h=>exact same h
  |val _ _ _ _ h=>exact same h
  |rd _ _ _ _ _ h=>exact same h
  |al _ _ _ _ _ _ _ h=>exact same h
  |ef _ h hc _ _ _ h3=>
   refine⟨(i+1+k,⟨msk ops (i+1+k),h⟩) :: l,by rw[<- bA,h3,l1];rfl,fun a ha=>?_⟩;rcases aq.1 ha with rfl|ha
   .rw[l1,he] at hc;cases l with
    |nil=>exact hc
    |cons e l=>simp only[bM,chain] at hc;exact yQ ht.okr _ o ho e.1 i hc (l2 e (by simp))
   .exact l2 a ha
theorem Tr.reads (ht:Tr G call ops n0 B0 env0 f V)(k i:Nat)(hk:i+k<=ops.size):∀ r∈(f i).reads,r∈(f (i+k)).reads:=by
 induction k with
 |zero=>exact fun r h=>h
 |succ k ih=>
  intro r hr;have:=ih (by omega) r hr;obtain⟨o,ho⟩:=Tr.op (ops:=ops) (k:=i+k) (by omega);cases ht.kind _ o ho with
  |skip _ _ _ _ _ h=>rw[<- bA,h];exact this
  |val _ _ _ _ _ h=>rw[<- bA,h];exact this
  |al _ _ _ _ _ _ _ _ h=>rw[<- bA,h];exact this
  |ef _ _ _ _ _ _ _ h=>rw[<- bA,h];exact this
  |rd _ _ _ _ _ _ h=>rw[<- bA,h];exact aB _ this
theorem Tr.base (ht:Tr G call ops n0 B0 env0 f V):∀ (k:Nat),k<=ops.size->((f k).eY=[]/\(f k).base=B0)\/∃ e l,(f k).eY=e :: l/\(f k).base=e.2:=by
 intro k;induction k with
 |zero=>intro _;rw[ht.zero];exact .inl ⟨rfl,rfl⟩
 |succ k ih=>
  intro hk;have ih:=ih (by omega);obtain⟨o,ho⟩:=Tr.op (ops:=ops) (k:=k) (by omega);cases ht.kind _ o ho with
  |skip _ _ h1 _ h3=>rw[h1,h3];exact ih
  |val _ _ h1 _ h3=>rw[h1,h3];exact ih
  |rd _ _ _ h1 _ h3=>rw[h1,h3];exact ih
  |al _ _ _ _ _ h1 _ h3=>rw[h1,h3];exact ih
  |ef _ h _ _ h1 _ h3=>rw[h1,h3];exact .inr ⟨_,_,rfl,rfl⟩
theorem Tr.sz (ht:Tr G call ops n0 B0 env0 f V):∀ (k:Nat),k<=ops.size->(f k).env.sz=env0.sz:=by
 intro k;induction k with
 |zero=>intro _;rw[ht.zero]
 |succ k ih=>intro hk;obtain⟨o,ho⟩:=Tr.op (ops:=ops) (k:=k) (by omega);rw[Env.yj (ht.put k o ho)];exact ih (by omega)
theorem Tr.keeps (ht:Tr G call ops n0 B0 env0 f V)(i:Nat)(k:Nat)(hk:i+k<=ops.size)(hn:∀ j o,i<=j->j<i+k->ops[j]?=some o->o.dst≠some t):(f (i+k)).env.tr.get t=(f i).env.tr.get t:=by
 induction k with
 |zero=>rfl
 |succ k ih=>obtain⟨o,ho⟩:=Tr.op (ops:=ops) (k:=i+k) (by omega);rw[<- bA,Env.wR (ht.put _ o ho),if_neg (hn _ o (by omega) (by omega) ho)];exact ih (by omega) fun j o h1 h2=>hn j o h1 (by omega)
theorem Tr.written (ht:Tr G call ops n0 B0 env0 f V){j:Nat}{o:Oper}(ho:ops[j]?=some o)(hd:o.dst=some t)(hj:j<k)(hk:k<=ops.size):(f k).env.tr.get t=some (V j):=by
 have h1:=ht.keeps (t:=t) (j+1) (k - (j+1)) (by omega) fun q o' h1 h2 h3 h4=>by have:=ht.okr.once q j o' o t h3 ho h4 hd;omega
 rw[show j+1+(k - (j+1))=k by omega] at h1;rw[h1,Env.wR (ht.put j o ho),if_pos hd]
theorem Tr.tv (ht:Tr G call ops n0 B0 env0 f V)(hk:k<=ops.size)(hn:∀ j o,j<k->ops[j]?=some o->o.dst≠some t):(f k).env.tr.get t=env0.tr.get t:=by have h1:=ht.keeps (t:=t) 0 k (by omega) fun q o' h1 h2 h3=>hn q o' (by omega) h3;rw[aI,ht.zero] at h1;exact h1
end
end Go.Ev
namespace Go.Ev
variable {A:List (Nat×Nat×O)}{j m:Nat}{B:Bs}
def al (A:List (Nat×Nat×O))(j:Nat):Option O:=match A.find? (fun a=>Nat.beq a.1 j) with
 |some a=>some a.2.2
 |none=>none
theorem tw (a:Nat×Nat×O)(A:List (Nat×Nat×O))(j:Nat):al (a :: A) j=if a.1=j then some a.2.2 else al A j:=by
 simp only[al,dI];by_cases h:a.1=j;·have:Nat.beq a.1 j=true:=(T.beq_true).2 h;rw[this,if_pos h]
 .have:Nat.beq a.1 j=false:=by
   cases q:Nat.beq a.1 j with
   |false=>rfl
   |true=>exact absurd ((T.beq_true).1 q) h
  rw[this,if_neg h]
theorem HC (h:∀ a∈A,a.1≠j):al A j=none:=by
 induction A with
 |nil=>rfl
 |cons a A ih=>rw[tw,if_neg (h a (by simp))];exact ih fun b hb=>h b (by simp[hb])
theorem HE {l:List (Nat×Nat×O)}(h:∀ a∈l,a.1≠j):al (l++A) j=al A j:=by
 induction l with
 |nil=>rfl
 |cons a l ih=>rw[bM,tw,if_neg (h a (by simp))];exact ih fun b hb=>h b (by simp[hb])
theorem HF {l:List (Nat×Nat×O)}(h:∀ a∈l,bit m a.1=false):hv B m (l++A)=hv B m A:=by
 induction l with
 |nil=>rfl
 |cons a l ih=>simp only[bM,hv,h a (by simp),Bool.false_and];exact ih fun b hb=>h b (by simp[hb])
theorem jh {n0:Nat}{x:Nat}(hA:∀ a∈A,a.2.1=n0+a.1)(hx:x<n0):(hv B m A).tr.get x=B.h.tr.get x:=by
 induction A with
 |nil=>rfl
 |cons a A ih=>
  have ih:=ih fun b hb=>hA b (by simp[hb]);simp only[hv];split;·rw[H.gj,if_neg (by rw[hA a (by simp)];omega),ih]
  .exact ih
theorem tA {n0:Nat}(hA:∀ a∈A,a.2.1=n0+a.1):
  (hv B m A).tr.get (n0+j)=if bit m j=true/\bit B.mask j=false then (al A j).or (B.h.tr.get (n0+j)) else B.h.tr.get (n0+j):=by
 induction A with
 |nil=>simp[hv,al]
 |cons a A ih=>
  have ih:=ih fun b hb=>hA b (by simp[hb]);have ha:=hA a (by simp);simp only[hv];split
  .rename_i hc;simp only[ae,bw] at hc;rw[H.gj,tw];by_cases h:a.1=j;·subst h;rw[if_pos (by rw[ha]),if_pos hc,if_pos rfl];rfl
   .rw[if_neg (by rw[ha];omega),if_neg h];exact ih
  .rename_i hc;rw[ih,tw];by_cases h:a.1=j
   .subst h;have:¬ (bit m a.1=true/\bit B.mask a.1=false):=fun q=>by simp[q.1,q.2] at hc
    rw[if_neg this,if_neg this]
   .rw[if_neg h]
def iI (B0:Bs)(m:Nat):List (Nat×Bs)->Bs
 |[]=>B0
 |e :: l=>match bit m e.1 with
  |true=>e.2
  |false=>iI B0 m l
theorem tB {B0:Bs}{l l':List (Nat×Bs)}(h:∀ e∈l,bit m e.1=false):iI B0 m (l++l')=iI B0 m l':=by
 induction l with
 |nil=>rfl
 |cons e l ih=>simp only[bM,iI,h e (by simp)];exact ih fun b hb=>h b (by simp[hb])
theorem Ed {B0:Bs}{m':Nat}{l:List (Nat×Bs)}(h:∀ e∈l,bit m e.1=bit m' e.1):iI B0 m l=iI B0 m' l:=by
 induction l with
 |nil=>rfl
 |cons e l ih=>simp only[iI,h e (by simp),ih fun b hb=>h b (by simp[hb])]
theorem C2 {B0:Bs}{m:Nat}:∀ {l:List (Nat×Bs)},iI B0 m l=B0\/∃ e∈l,bit m e.1=true/\iI B0 m l=e.2
 |[]=>.inl rfl
 |e :: l=>by
  simp only[iI];cases h:bit m e.1 with
  |true=>exact .inr ⟨e,by simp,h,rfl⟩
  |false=>exact(C2 (l:=l)).imp id fun⟨e',a,b,c⟩=>⟨e',by simp[a],b,c⟩
theorem C3 {G:Γ}{j m:Nat}{env:Env}{op:Op}{v:V}{A:List (Nat×Nat×O)}{B0:Bs}{MS:Nat}(hm:∀ k,bit m k=true->bit MS k=true):
  ∀ {l:List (Nat×Bs)},(∀ e∈l,bit MS e.1=true->bit e.2.mask j=false)->JQ G j m env op v A B0 l=true->wO G m env op v A (iI B0 MS l)=true
 |[],_,h=>h
 |e :: l,hj,h=>by
  simp only[JQ,ae,bf] at h;simp only[iI];cases hb:bit MS e.1 with
  |true=>exact h.1.resolve_left (by simp[hj e (by simp) hb])
  |false=>exact C3 hm (fun b q=>hj b (by simp[q])) (h.2.resolve_left fun q=>by rw[hm _ q] at hb;cases hb)
theorem uV {G:Γ}{A:List (Nat×Nat×O)}{B0:Bs}{eY:List (Nat×Bs)}:∀ {l:List (Nat×Nat×Env×Op×V)},oJ G A B0 eY l=true->∀ r∈l,JQ G r.1 r.2.1 r.2.2.1 r.2.2.2.1 r.2.2.2.2 A B0 eY=true
 |[],_,r,hr=>by simp at hr
 |x :: l,h,r,hr=>by
  simp only[oJ,ae] at h;rcases aq.1 hr with rfl|hr
  .exact h.1
  .exact uV h.2 r hr
theorem frame {Y Y':Ren}{h1 h2 h' h2':H}{w w':World}(hS2:Sim Y h2 w)(hn:h1.next=h2.next)(hsub:∀ b o,h1.tr.get b=some o->h2.tr.get b=some o)(hS':Sim Y' h' w')(hEe:Ext Y h1 w Y' h' w')(hn':h2'.next=h'.next)
  (hget:∀ x,h2'.tr.get x=match h1.tr.get x,h2.tr.get x with
    |none,some o=>some o
    |_,_=>h'.tr.get x):
  ∃ Y2:Ren,Y2.loc=Y'.loc/\Sim Y2 h2' w'/\Ext Y h2 w Y2 h2' w'/\∀ x o,h1.tr.get x=none->h2.tr.get x=some o->h'.tr.get x=none:=
 H7 hS2 hn hsub hS' hEe hn' fun b o h=>by
  rw[hget] at h;split at h;·rename_i o' e1 e2;cases h;exact .inl ⟨e1,e2⟩
  .exact .inr ⟨o,h,rfl,fun _ _=>rfl,fun _ _ _ h=>h⟩
end Go.Ev
namespace Go.Ev
variable {Ee:Env}
theorem iZ (m i j:Nat):bit (Nat.lor m (Nat.pow 2 i)) j=true↔bit m j=true\/i=j:=by rw[Hy,Hz,bf,decide_eq_true_eq]
theorem iA {m i j:Nat}(h:j≠i):bit (Nat.lor m (Nat.pow 2 i)) j=bit m j:=by rw[bU,iZ];exact⟨fun q=>q.resolve_right fun e=>h e.symm,.inl⟩
structure Inv (ops:Array Oper)(n0:Nat)(B0:Bs)(env0:Env)(sN:DS)(Y0:Ren)(h0:H)(w0:World)(MS:Nat)(Y:Ren)(a:Act)(w:World):Prop where
 bound:∀ j,bit MS j=true->j<ops.size
 closed:∀ i,bit MS i=true->∀ j,bit (msk ops i) j=true->bit MS j=true
 env:∃ Ee:Env,iU Y Ee a.tmps/\Ee.sz=env0.sz/\(∀ j o t,bit MS j=true->ops[j]?=some o->o.dst=some t->Ee.tr.get t=sN.env.tr.get t) /\
  ∀ t,(∀ j o,bit MS j=true->ops[j]?=some o->o.dst≠some t)->Ee.tr.get t=env0.tr.get t
 sim:Sim Y (hv (iI B0 MS sN.eY) MS sN.eK) w
 ext:Ext Y0 h0 w0 Y (hv (iI B0 MS sN.eY) MS sN.eK) w
 free:∀ j,j<ops.size->(bit MS j=false\/al sN.eK j=none)->Y (n0+j)=none
 dead:∀ j,j<ops.size->bit (iI B0 MS sN.eY).mask j=false->(iI B0 MS sN.eY).h.tr.get (n0+j)=none
 nxt:n0+ops.size<=(iI B0 MS sN.eY).h.next
section
variable {P:Program}{G:Γ}{call:ic}{ops:Array Oper}{n0:Nat}{B0:Bs}{env0:Env}{f:Nat->DS}{V:Nat->V}(ht:Tr G call ops n0 B0 env0 f V)
variable {Y0:Ren}{h0:H}{w0:World}{MS:Nat}{Y:Ren}{a:Act}{w:World}{i:Nat}{o:Oper}(ho:ops[i]?=some o)(hi:bit MS i=false)(hm:∀ j,bit (msk ops i) j=true->bit MS j=true)
theorem Ll (ht:Tr G call ops n0 B0 env0 f V)(ho:ops[i]?=some o)(hi:bit MS i=false)(hm:∀ j,bit (msk ops i) j=true->bit MS j=true){t:Tmp}(h1:∀ j o t,bit MS j=true->ops[j]?=some o->o.dst=some t->Ee.tr.get t=(f ops.size).env.tr.get t)
  (h2:∀ t,(∀ j o,bit MS j=true->ops[j]?=some o->o.dst≠some t)->Ee.tr.get t=env0.tr.get t)
  (hc:∀ k,bit MS k=true->∀ j,bit (msk ops k) j=true->bit MS j=true)(hw:∀ j o',ops[j]?=some o'->o'.dst=some t->bit (msk ops i) j=true\/j=i\/bit (msk ops j) i=true):Ee.tr.get t=(f i).env.tr.get t:=by
 have hlt:i<ops.size:=(aD.1 ho).1;by_cases h:∃ (j:Nat) (o':Oper),ops[j]?=some o'/\o'.dst=some t
 .obtain⟨j,o',a,b⟩:=h;rcases hw j o' a b with hb|hb;·have hj:=HA ht.okr i o ho j hb;rw[h1 j o' t (hm j hb) a b,ht.written a b (dF hj hlt) (aF _),ht.written a b hj (dx hlt)]
  .have hji:i<=j/\bit MS j=false:=by
    rcases hb with rfl|hb;·exact⟨aF _,hi⟩
    .refine⟨dx (HA ht.okr j o' a i hb),?_⟩;cases q:bit MS j with
     |false=>rfl
     |true=>rw[hc j q i hb] at hi;cases hi
   rw[h2 t fun j' o'' hj' x y=>(by
    have:=ht.okr.once j' j o'' o' t x a y b;subst this;rw[hji.2] at hj';cases hj'),ht.tv (dx hlt) fun j' o'' hj' x y=>(by
    have:=ht.okr.once j' j o'' o' t x a y b;omega)]
 .have no:∀ (j:Nat) (o':Oper),ops[j]?=some o'->o'.dst≠some t:=fun j o' a b=>h ⟨j,o',a,b⟩;rw[h2 t fun j o' _ a=>no j o' a,ht.tv (dx hlt) fun j o' _ a=>no j o' a]
theorem Nw (ht:Tr G call ops n0 B0 env0 f V)(ho:ops[i]?=some o)(hi:bit MS i=false)(hm:∀ j,bit (msk ops i) j=true->bit MS j=true)(h1:∀ j o t,bit MS j=true->ops[j]?=some o->o.dst=some t->Ee.tr.get t=(f ops.size).env.tr.get t)
  (h2:∀ t,(∀ j o,bit MS j=true->ops[j]?=some o->o.dst≠some t)->Ee.tr.get t=env0.tr.get t)(hc:∀ k,bit MS k=true->∀ j,bit (msk ops k) j=true->bit MS j=true):∀ x∈HT o.op,Ee.get x=(f i).env.get x:=by
 intro x hx;cases x with
 |tmp t=>exact Ll ht ho hi hm h1 h2 hc fun j o' p q=>ht.okr.opnd i o t ho hx j o' p q
 |const v=>rfl
 |global g=>rfl
 |func g=>rfl
theorem zad (ht:Tr G call ops n0 B0 env0 f V)(ho:ops[i]?=some o)(hi:bit MS i=false)(hm:∀ j,bit (msk ops i) j=true->bit MS j=true)(h1:∀ j o t,bit MS j=true->ops[j]?=some o->o.dst=some t->Ee.tr.get t=(f ops.size).env.tr.get t)
  (h2:∀ t,(∀ j o,bit MS j=true->ops[j]?=some o->o.dst≠some t)->Ee.tr.get t=env0.tr.get t)(hc:∀ k,bit MS k=true->∀ j,bit (msk ops k) j=true->bit MS j=true):gz ops Ee o=gz ops (f i).env o:=by
 unfold gz;split;·rfl
 .rename_i j want hg;split
  .rename_i p hp;split
   .rename_i d hd;have hp:ops[j]?=some p:=by simpa using hp
    rw[Ll ht ho hi hm h1 h2 (t:=d) hc fun q o' x y=>by have:=ht.okr.once q j o' p d x hp y hd;subst this;exact .inl (ht.okr.guard i o q want ho hg)]
   .rfl
  .rfl
theorem Qj (ht:Tr G call ops n0 B0 env0 f V)(ho:ops[i]?=some o)(hi:bit MS i=false)(hc:∀ k,bit MS k=true->∀ j,bit (msk ops k) j=true->bit MS j=true)(hm:∀ j,bit (msk ops i) j=true->bit MS j=true){h:H}(hch:chain (f i).eY (msk ops i)=true)(he:(f (i+1)).eY=(i,⟨msk ops i,h⟩) :: (f i).eY):
  iI B0 MS (f ops.size).eY=(f i).base/\iI B0 (Nat.lor MS (Nat.pow 2 i)) (f ops.size).eY=⟨msk ops i,h⟩:=by
 have hlt:i<ops.size:=(aD.1 ho).1;obtain⟨l,l1,l2⟩:=ht.Ec he (ops.size - (i+1)) (by omega);obtain⟨l',l1',l2'⟩:=ht.eY (ops.size - (i+1)) (i+1) (by omega);rw[show i+1+(ops.size - (i+1))=ops.size by omega] at l1 l1';have hl:l'=l:=by rw[l1] at l1';exact(List.append_cancel_right l1').symm
 subst hl;have no:∀ e∈l',bit MS e.1=false:=fun e h=>by
  cases q:bit MS e.1 with
  |false=>rfl
  |true=>have:=hc e.1 q i (l2 e h);rw[hi] at this;cases this
 rw[l1];constructor
 .rw[tB no,he];simp only[iI,hi];rcases ht.base i (dx hlt) with⟨a,b⟩|⟨e,l,a,b⟩
  .rw[a,b];rfl
  .rw[a] at hch ⊢;simp only[chain] at hch;simp only[iI,hm _ hch,b]
 .rw[tB fun e h=>by rw[iA (by have:=(l2' e h).1;omega)];exact no e h,he];have:bit (Nat.lor MS (Nat.pow 2 i)) i=true:=(iZ _ _ _).2 (.inr rfl);simp only[iI,this]
theorem Lm (ht:Tr G call ops n0 B0 env0 f V)(ho:ops[i]?=some o)(he:(f (i+1)).eY=(f i).eY):iI B0 (Nat.lor MS (Nat.pow 2 i)) (f ops.size).eY=iI B0 MS (f ops.size).eY:=by
 have hlt:i<ops.size:=(aD.1 ho).1;obtain⟨l,l1,l2⟩:=ht.eY (ops.size - (i+1)) (i+1) (by omega);obtain⟨l',l1',l2'⟩:=ht.eY i 0 (by omega);rw[show i+1+(ops.size - (i+1))=ops.size by omega] at l1;rw[aI,ht.zero,cC] at l1';refine Ed fun e h=>iA ?_;rw[l1,he,l1'] at h;rcases aK.1 h with h|h
 .have:=(l2 e h).1;omega
 .have:=(l2' e h).2.1;omega
theorem Qk (ht:Tr G call ops n0 B0 env0 f V)(ho:ops[i]?=some o)(he:(f (i+1)).eK=(f i).eK):al (f ops.size).eK i=none:=by
 have hlt:i<ops.size:=(aD.1 ho).1;obtain⟨l,l1,l2⟩:=ht.eK (ops.size - (i+1)) (i+1) (by omega);obtain⟨l',l1',l2'⟩:=ht.eK i 0 (by omega);rw[show i+1+(ops.size - (i+1))=ops.size by omega] at l1;rw[aI,ht.zero,cC] at l1';rw[l1,he,l1'];refine HC fun a h=>?_;rcases aK.1 h with h|h
 .have:=(l2 a h).1;omega
 .have:=(l2' a h).2.1;omega
theorem Ql (ht:Tr G call ops n0 B0 env0 f V)(ho:ops[i]?=some o){obj:O}(he:(f (i+1)).eK=(i,n0+i,obj) :: (f i).eK):al (f ops.size).eK i=some obj:=by have hlt:i<ops.size:=(aD.1 ho).1;obtain⟨l,l1,l2⟩:=ht.eK (ops.size - (i+1)) (i+1) (by omega);rw[show i+1+(ops.size - (i+1))=ops.size by omega] at l1;rw[l1,he,HE fun a h=>by have:=(l2 a h).1;omega,tw,if_pos rfl]
theorem Qm (ht:Tr G call ops n0 B0 env0 f V)(ho:ops[i]?=some o)(B:Bs):hv B (msk ops i) (f i).eK=hv B (msk ops i) (f ops.size).eK:=by
 have hlt:i<ops.size:=(aD.1 ho).1;obtain⟨l,l1,l2⟩:=ht.eK (ops.size - i) i (by omega);rw[show i+(ops.size - i)=ops.size by omega] at l1;rw[l1,HF fun a h=>?_];cases q:bit (msk ops i) a.1 with
 |false=>rfl
 |true=>have:=HA ht.okr i o ho _ q;have:=(l2 a h).1;omega
theorem ids (ht:Tr G call ops n0 B0 env0 f V):(∀ a∈(f ops.size).eK,a.2.1=n0+a.1)/\∀ j,ops.size<=j->al (f ops.size).eK j=none:=by obtain⟨l',l1',l2'⟩:=ht.eK ops.size 0 (by omega);rw[aI,ht.zero,cC] at l1';rw[l1'];exact⟨fun a h=>(l2' a h).2.2,fun j hj=>HC fun a h=>by have:=(l2' a h).2.1;omega⟩
end
end Go.Ev
namespace Go.Ev
variable {n0 m MS i:Nat}{B:Bs}{A:List (Nat×Nat×O)}
theorem Te {m':Nat}(hA:∀ a∈A,a.2.1=n0+a.1)(hm:∀ j,bit m j=true->bit m' j=true)
  (hd:∀ j,al A j≠none->bit B.mask j=false->B.h.tr.get (n0+j)=none):∀ b o,(hv B m A).tr.get b=some o->(hv B m' A).tr.get b=some o:=by
 intro b o h;by_cases hb:b<n0;·rw[jh hA hb] at h ⊢;exact h
 .obtain⟨j,rfl⟩:∃ j,b=n0+j:=⟨b - n0,by omega⟩;rw[tA hA] at h ⊢;split at h;·rename_i hc;rw[if_pos ⟨hm _ hc.1,hc.2⟩];exact h
  .split
   .rename_i h1 h2;cases ha:al A j with
    |none=>simpa using h
    |some o'=>rw[hd j (by rw[ha];simp) h2.2] at h;cases h
   .exact h
theorem Hv {MS':Nat}(hA:∀ a∈A,a.2.1=n0+a.1)(hm:∀ j,bit m j=true->bit MS j=true)(hMS:∀ j,j≠i->bit MS' j=bit MS j)
  (hai:al A i=none)(hd:∀ j,al A j≠none->bit B.mask j=false->B.h.tr.get (n0+j)=none)(x:Nat):
  (hv B MS' A).tr.get x=match (hv B m A).tr.get x,(hv B MS A).tr.get x with
    |none,some o=>some o
    |_,_=>(hv B m A).tr.get x:=by
 by_cases hb:x<n0;·rw[jh hA hb,jh hA hb,jh hA hb];cases B.h.tr.get x<;>rfl
 .obtain⟨j,rfl⟩:∃ j,x=n0+j:=⟨x - n0,by omega⟩;rw[tA hA,tA hA,tA hA];cases ha:al A j with
  |none=>simp only[Option.none_or,ite_self];cases B.h.tr.get (n0+j)<;>rfl
  |some ob=>
   have hji:j≠i:=fun e=>by rw[e,hai] at ha;cases ha
   rw[hMS j hji];simp only[Option.some_or];cases hk:bit B.mask j with
   |true=>simp only[Bool.true_eq_false,and_false,if_false];cases B.h.tr.get (n0+j)<;>rfl
   |false=>
    have hn:=hd j (by rw[ha];simp) hk;rw[hn];simp only[and_true];cases h1:bit m j with
    |true=>rw[hm j h1];rfl
    |false=>cases bit MS j<;>rfl
theorem Hw {MS':Nat}{h':H}(hA:∀ a∈A,a.2.1=n0+a.1)(hm:∀ j,bit m j=true->bit MS j=true)(hk:∀ j,bit B.mask j=true->bit m j=true)(hMS:∀ j,j≠i->bit MS' j=bit MS j)
  (hai:al A i=none)(hd:∀ j,al A j≠none->bit B.mask j=false->B.h.tr.get (n0+j)=none)(x:Nat):
  (hv ⟨m,h'⟩ MS' A).tr.get x=match (hv B m A).tr.get x,(hv B MS A).tr.get x with
    |none,some o=>some o
    |_,_=>h'.tr.get x:=by
 by_cases hb:x<n0;·rw[jh hA hb,jh hA hb,jh hA hb];cases B.h.tr.get x<;>rfl
 .obtain⟨j,rfl⟩:∃ j,x=n0+j:=⟨x - n0,by omega⟩;rw[tA hA,tA hA,tA hA];cases ha:al A j with
  |none=>simp only[Option.none_or,ite_self];cases B.h.tr.get (n0+j)<;>rfl
  |some ob=>
   have hji:j≠i:=fun e=>by rw[e,hai] at ha;cases ha
   rw[hMS j hji];simp only[Option.some_or];cases h1:bit m j with
   |true=>
    simp only[Bool.true_eq_false,and_false,if_false];rw[hm j h1];cases bit B.mask j with
    |true=>simp only[Bool.true_eq_false,and_false,if_false];cases B.h.tr.get (n0+j)<;>rfl
    |false=>rfl
   |false=>
    have hk:bit B.mask j=false:=by
     cases q:bit B.mask j with
     |false=>rfl
     |true=>rw[hk j q] at h1;cases h1
    rw[hk,hd j (by rw[ha];simp) hk];cases bit MS j<;>rfl
theorem JR {obj:O}(hA:∀ a∈A,a.2.1=n0+a.1)(hai:al A i=some obj)(hk:bit B.mask i=false)(hi:bit MS i=false)(x:Nat):
  (hv B (Nat.lor MS (Nat.pow 2 i)) A).tr.get x=if x=n0+i then some obj else (hv B MS A).tr.get x:=by
 by_cases hb:x<n0;·rw[jh hA hb,jh hA hb,if_neg (by omega)]
 .obtain⟨j,rfl⟩:∃ j,x=n0+j:=⟨x - n0,by omega⟩;rw[tA hA,tA hA];by_cases e:j=i;·subst e;rw[if_pos ⟨(iZ _ _ _).2 (.inr rfl),hk⟩,if_pos rfl,hai];rfl
  .rw[iA e,if_neg (show ¬ n0+j=n0+i by omega)]
end Go.Ev
namespace Go.Ev
section
variable {P:Program}{G:Γ}{call:ic}{ops:Array Oper}{n0:Nat}{B0:Bs}{env0:Env}{f:Nat->DS}{V:Nat->V}
variable {Y0:Ren}{h0:H}{w0:World}{MS:Nat}{Y:Ren}{a:Act}{w:World}{i:Nat}{o:Oper}
theorem Inv.next (ht:Tr G call ops n0 B0 env0 f V)(hI:Inv ops n0 B0 env0 (f ops.size) Y0 h0 w0 MS Y a w)(ho:ops[i]?=some o)(hm:∀ j,bit (msk ops i) j=true->bit MS j=true)
  {Ee Ee':Env}(hE1:iU Y Ee a.tmps)(hE2:Ee.sz=env0.sz)(hE3:∀ j o t,bit MS j=true->ops[j]?=some o->o.dst=some t->Ee.tr.get t=(f ops.size).env.tr.get t)
  (hE4:∀ t,(∀ j o,bit MS j=true->ops[j]?=some o->o.dst≠some t)->Ee.tr.get t=env0.tr.get t)
  (hput:Ee.put o.dst (V i)=some Ee'){Y':Ren}{w':World}{c:Value}(hc:Rel Y' (V i) c)
  (hS:Sim Y' (hv (iI B0 (Nat.lor MS (Nat.pow 2 i)) (f ops.size).eY) (Nat.lor MS (Nat.pow 2 i)) (f ops.size).eK) w')
  (hle:Y.le Y')(hXx:Ext Y0 h0 w0 Y' (hv (iI B0 (Nat.lor MS (Nat.pow 2 i)) (f ops.size).eY) (Nat.lor MS (Nat.pow 2 i)) (f ops.size).eK) w')
  (hfree:∀ j,j<ops.size->(bit (Nat.lor MS (Nat.pow 2 i)) j=false\/al (f ops.size).eK j=none)->Y' (n0+j)=none)
  (hdead:∀ j,j<ops.size->bit (iI B0 (Nat.lor MS (Nat.pow 2 i)) (f ops.size).eY).mask j=false->(iI B0 (Nat.lor MS (Nat.pow 2 i)) (f ops.size).eY).h.tr.get (n0+j)=none)
  (hnxt:n0+ops.size<=(iI B0 (Nat.lor MS (Nat.pow 2 i)) (f ops.size).eY).h.next):
  Inv ops n0 B0 env0 (f ops.size) Y0 h0 w0 (Nat.lor MS (Nat.pow 2 i)) Y' (a.put o.dst c) w' where
 bound j h:=by
  rcases(iZ _ _ _).1 h with h|rfl;·exact hI.bound j h
  .exact(aD.1 ho).1
 closed k h j hj:=by
  rw[iZ] at h ⊢;rcases h with h|rfl
  .exact .inl (hI.closed k h j hj)
  .exact .inl (hm j hj)
 env:=by
  have hlt:i<ops.size:=(aD.1 ho).1;refine⟨Ee',kZ (hE1.mono hle) hput hc,by rw[Env.yj hput,hE2],fun j o' t hj hj' hd=>?_,fun t hn=>?_⟩
  .rw[Env.wR hput];split;·rename_i hd';rw[ht.written ho hd' hlt (aF _)]
   .rename_i hd';rcases(iZ _ _ _).1 hj with h|rfl
    .exact hE3 j o' t h hj' hd
    .rw[ho] at hj';cases hj';exact absurd hd hd'
  .rw[Env.wR hput,if_neg (hn i o ((iZ _ _ _).2 (.inr rfl)) ho)];exact hE4 t fun j o' hj=>hn j o' ((iZ _ _ _).2 (.inl hj))
 sim:=hS
 ext:=hXx
 free:=hfree
 dead:=hdead
 nxt:=hnxt
theorem Tr.Hx (ht:Tr G call ops n0 B0 env0 f V)(h0:B0.mask=0)(ho:ops[i]?=some o)(hch:chain (f i).eY (msk ops i)=true):∀ j,bit (f i).base.mask j=true->bit (msk ops i) j=true:=by
 intro j hj;have hlt:i<ops.size:=(aD.1 ho).1;rcases ht.base i (dx hlt) with⟨_,b⟩|⟨e,l,a,b⟩
 .rw[b,h0,gQ] at hj;cases hj
 .obtain⟨l',l1,l2⟩:=ht.eY i 0 (by omega);rw[aI,ht.zero,cC] at l1;rw[a] at hch;have:=(l2 e (by rw[<- l1,a];simp)).2.2;rw[b,this] at hj;exact yQ ht.okr i o ho e.1 j hch hj
theorem Tr.JS (ht:Tr G call ops n0 B0 env0 f V)(h0:B0.mask=0)(hc:∀ k,bit MS k=true->∀ j,bit (msk ops k) j=true->bit MS j=true):∀ j,bit (iI B0 MS (f ops.size).eY).mask j=true->bit MS j=true:=by
 intro j hj;rcases C2 (B0:=B0) (m:=MS) (l:=(f ops.size).eY) with h|⟨e,h1,h2,h3⟩
 .rw[h,h0,gQ] at hj;cases hj
 .obtain⟨l',l1,l2⟩:=ht.eY ops.size 0 (by omega);rw[aI,ht.zero,cC] at l1;rw[l1] at h1;rw[h3,(l2 e h1).2.2] at hj;exact hc e.1 h2 j hj
theorem Tr.read (ht:Tr G call ops n0 B0 env0 f V)(hchk:oJ G (f ops.size).eK B0 (f ops.size).eY (f ops.size).reads=true)(hc:∀ k,bit MS k=true->∀ j,bit (msk ops k) j=true->bit MS j=true)
  (ho:ops[i]?=some o)(hi:bit MS i=false)(hm:∀ j,bit (msk ops i) j=true->bit MS j=true){v:Ev.V}(hr:(f (i+1)).reads=(i,msk ops i,(f i).env,o.op,v) :: (f i).reads):
  wO G (msk ops i) (f i).env o.op v (f ops.size).eK (iI B0 MS (f ops.size).eY)=true:=by
 have hlt:i<ops.size:=(aD.1 ho).1;have hmem:=ht.reads (ops.size - (i+1)) (i+1) (by omega) (i,msk ops i,(f i).env,o.op,v) (by rw[hr];simp);rw[show i+1+(ops.size - (i+1))=ops.size by omega] at hmem;have h1:=uV hchk _ hmem;obtain⟨l',l1,l2⟩:=ht.eY ops.size 0 (by omega);rw[aI,ht.zero,cC] at l1;refine C3 hm (fun e h hb=>?_) h1;rw[l1] at h;rw[(l2 e h).2.2];cases q:bit (msk ops e.1) i with
 |false=>rfl
 |true=>rw[hc e.1 hb i q] at hi;cases hi
theorem Inv.step (hG:GOk P G)(hcall:pT P call)(ht:Tr G call ops n0 B0 env0 f V)(hB:B0.mask=0)(hn0:h0.next=n0)(hchk:oJ G (f ops.size).eK B0 (f ops.size).eY (f ops.size).reads=true)
  (hI:Inv ops n0 B0 env0 (f ops.size) Y0 h0 w0 MS Y a w)(ho:ops[i]?=some o)(hi:bit MS i=false)(hm:∀ j,bit (msk ops i) j=true->bit MS j=true)
  {F:Fence}(hF:xu F){n:Nat}{Q:Exit->Act->World->Prop}{K:Act->World->Prop}
  (hK:∀ Y' a' w',Inv ops n0 B0 env0 (f ops.size) Y0 h0 w0 (Nat.lor MS (Nat.pow 2 i)) Y' a' w'->a'.defers=a.defers->K a' w'):wpOpIn F n P ops Q i K a w:=by
 have hlt:i<ops.size:=(aD.1 ho).1;obtain⟨Ee,hE1,hE2,hE3,hE4⟩:=hI.env;have hEg:=Nw ht ho hi hm hE3 hE4 hI.closed;have hEw:=zad ht ho hi hm hE3 hE4 hI.closed;have hact:act G Ee.get o.op=act G (f i).env.get o.op:=Hu hEg;obtain⟨Ee',hput⟩:=Env.Qi (ht.put i o ho) (by rw[hE2,ht.sz i (dx hlt)]);obtain⟨hA,hA'⟩:=ids ht;have hdef:∀ c,(a.put o.dst c).defers=a.defers:=fun c=>by cases o.dst<;>rfl
 have hmask:=ht.JS hB hI.closed;have hdead:∀ j,al (f ops.size).eK j≠none->bit (iI B0 MS (f ops.size).eY).mask j=false->(iI B0 MS (f ops.size).eY).h.tr.get (n0+j)=none:=fun j hj hb=>by
  refine hI.dead j ?_ hb;rcases Nat.lt_or_ge j ops.size with h|h
  .exact h
  .exact absurd (hA' j h) hj
 have hsub:=Te hA hm hdead;have hSm:Sim Y (hv (iI B0 MS (f ops.size).eY) (msk ops i) (f ops.size).eK) w:=hI.sim.sub (by rw[fS,fS];exact aF _) hsub;have quiet:(f (i+1)).eK=(f i).eK->(f (i+1)).eY=(f i).eY->∀ {Y':Ren} {w':World} {c:Value},Sim Y' (hv (iI B0 MS (f ops.size).eY) (msk ops i) (f ops.size).eK) w' ->
   Ext Y (hv (iI B0 MS (f ops.size).eY) (msk ops i) (f ops.size).eK) w Y' (hv (iI B0 MS (f ops.size).eY) (msk ops i) (f ops.size).eK) w'->Rel Y' (V i) c ->
   ∃ Y2,Inv ops n0 B0 env0 (f ops.size) Y0 h0 w0 (Nat.lor MS (Nat.pow 2 i)) Y2 (a.put o.dst c) w':=by
  intro ha he Y' w' c hS' hXx hc;have hcur:=Lm (MS:=MS) ht ho he;have hal:=Qk ht ho ha;obtain⟨Y2,f0,f1,f2,f3⟩:=frame (h2':=hv (iI B0 MS (f ops.size).eY) (Nat.lor MS (Nat.pow 2 i)) (f ops.size).eK) hI.sim (by rw[fS,fS]) hsub hS' hXx (by rw[fS,fS])
   (Hv hA hm (fun j hj=>iA hj) hal hdead)
  refine⟨Y2,hI.next ht ho hm hE1 hE2 hE3 hE4 hput (hc.loc f0) (by rw[hcur];exact f1) (f2.le hI.sim) (by rw[hcur];exact hI.ext.trans f2) (fun j hj hb=>?_) (by rw[hcur];exact hI.dead) (by rw[hcur];exact hI.nxt)⟩;rw[f2.agree _ (by rw[fS];have:=hI.nxt;omega)];refine hI.free j hj (hb.imp (fun q=>?_) id);cases r:bit MS j with
  |false=>rfl
  |true=>rw[(iZ _ _ _).2 (.inl r)] at q;cases q
 unfold wpOpIn;simp only[ho];cases ht.kind i o ho with
 |skip hw hv0 h1 h2 h3 h4=>rw[gF hE1 (by rw[hEw];exact hw)];simp only[aW,if_false];obtain⟨Y2,hI2⟩:=quiet h2 h3 hSm (Ext.refl _ _ _) (c:=undef) (by rw[hv0];exact .undef);exact⟨fun _ _=>hF.fn _,hK Y2 _ w hI2 (hdef _)⟩
 |val hw ha h1 h2 h3 h4=>
  rw[gF hE1 (by rw[hEw];exact hw),if_pos rfl];have hst:je G call Ee (hv (iI B0 MS (f ops.size).eY) (msk ops i) (f ops.size).eK) o=some (V i,hv (iI B0 MS (f ops.size).eY) (msk ops i) (f ops.size).eK):=by simp only[je,hact,ha]
  refine⟨fun _ _=>hF.fn _,(oU hG hcall hst hSm hE1 F.round).upon hF fun c w1 hp=>?_⟩;obtain⟨Y1,p1,p2,p3⟩:=hp;obtain⟨Y2,hI2⟩:=quiet h2 h3 p1 p2 p3;exact hK Y2 _ w1 hI2 (hdef _)
 |rd hw g ha h1 h2 h3 h4=>
  rw[gF hE1 (by rw[hEw];exact hw),if_pos rfl];have hc:=ht.read hchk hI.closed ho hi hm h4;unfold wO at hc;split at hc
  .rename_i g' ha';split at hc
   .rename_i v' hv';have hst:je G call Ee (hv (iI B0 MS (f ops.size).eY) (msk ops i) (f ops.size).eK) o=some (v',hv (iI B0 MS (f ops.size).eY) (msk ops i) (f ops.size).eK):=by
     simp only[je,hact,ha',hv']
    refine⟨fun _ _=>hF.fn _,(oU hG hcall hst hSm hE1 F.round).upon hF fun c w1 hp=>?_⟩;obtain⟨Y1,p1,p2,p3⟩:=hp;obtain⟨Y2,hI2⟩:=quiet h2 h3 p1 p2 (gU hc p3);exact hK Y2 _ w1 hI2 (hdef _)
   .cases hc
  .cases hc
 |al hw g obj ha hg h1 h2 h3 h4=>
  rw[gF hE1 (by rw[hEw];exact hw),if_pos rfl];have hcur:=Lm (MS:=MS) ht ho h3;have hal:=Ql ht ho h2;have hid:Y (n0+i)=none:=hI.free i hlt (.inl hi);obtain⟨c,c',L,w',e1,e2,e3,e4,e5⟩:=Lq hG (jO hI.sim.glob hE1) (hact.trans ha) hid hg w;have hnd:∀ c,o.op≠.defer c:=fun c q=>by rw[q] at ha;simp[act] at ha
  have hother:∀ B,B<w.heap.size->w'.heap[B]?=w.heap[B]?:=fun B hB=>by rw[e2.heap,cL,if_neg (by omega)]
  have hmi:bit (iI B0 MS (f ops.size).eY).mask i=false:=by
   cases q:bit (iI B0 MS (f ops.size).eY).mask i with
   |false=>rfl
   |true=>rw[hmask i q] at hi;cases hi
  have hget:=JR (B:=iI B0 MS (f ops.size).eY) hA hal hmi hi;have hnx:=hI.nxt;have hS':=hI.sim.add (h':=hv (iI B0 MS (f ops.size).eY) (Nat.lor MS (Nat.pow 2 i)) (f ops.size).eK) (o':=obj) (L:=L) (c':=c') hid (by rw[fS];omega) (by rw[fS,fS];exact aF _) hget (eF e3.symm) (by rw[e2.heap,e3];simp) e4 hother (HO (hact.trans ha) hg);have hXx:Ext Y0 h0 w0 (Y.with (n0+i) L) (hv (iI B0 MS (f ops.size).eY) (Nat.lor MS (Nat.pow 2 i)) (f ops.size).eK) w':=by
   have hx:=hI.ext;refine⟨by have:=hx.next;rw[fS] at this ⊢;exact this,fun b hb=>?_,fun b hb q=>by rw[hget,if_neg (by omega)];exact hx.old b hb q,bF hx.size (by rw[e2.heap];simp),fun B hB hno=>?_,fun b ob B hb hL hlt'=>?_,by rw[e2.tape,hx.tape],by rw[e2.os,hx.os],by rw[e2.output,hx.output]⟩;·rw[Ren.jX Y L (by omega)];exact hx.agree b hb
   .rw[hother B (bh hB hx.size)];exact hx.frame B hB hno
   .rw[hget] at hb;by_cases e:b=n0+i;·subst e;have:=Y.nN L hL;have:=hx.size;omega
    .rw[if_neg e] at hb;rw[Ren.nM Y L e] at hL;exact hx.origin b ob B hb hL hlt'
  refine⟨fun _ _=>hF.fn _,?_⟩;rw[Oper.semAt_eq _ _ _ hnd];refine jy.upon (P:=P) hF (R:=fun c1 w1=>c1=c/\w1=w') (by rw[e1];exact⟨rfl,rfl⟩) fun c1 w1 hp=>?_;obtain⟨rfl,rfl⟩:=hp;refine hK (Y.with (n0+i) L) _ _ (hI.next ht ho hm hE1 hE2 hE3 hE4 hput e5 (by rw[hcur];exact hS') (Ren.gV Y L hid) (by rw[hcur];exact hXx) (fun j hj hb=>?_) (by rw[hcur];exact hI.dead) (by rw[hcur];exact hI.nxt)) (hdef _);have hji:j≠i:=fun e=>by
   subst e;rcases hb with hb|hb
   .rw[(iZ _ _ _).2 (.inr rfl)] at hb;cases hb
   .rw[hal] at hb;cases hb
  rw[Ren.jX Y L (by omega)];refine hI.free j hj (hb.imp (fun q=>?_) id);rw[iA hji] at q;exact q
 |ef hw h hch hst h1 h2 h3 h4=>
  rw[gF hE1 (by rw[hEw];exact hw),if_pos rfl];obtain⟨c1,c2⟩:=Qj ht ho hi hI.closed hm hch h3;have hal:=Qk ht ho h2;have hst':je G call Ee (hv (iI B0 MS (f ops.size).eY) (msk ops i) (f ops.size).eK) o=some (V i,h):=by rw[c1,<- Qm ht ho];rw[<- hst];simp only[je,hact]
  have hbm:=ht.Hx hB ho hch;rw[<- c1] at hbm;refine⟨fun _ _=>hF.fn _,(oU hG hcall hst' hSm hE1 F.round).upon hF fun c w1 hp=>?_⟩;obtain⟨Y1,p1,p2,p3⟩:=hp;obtain⟨Y2,f0,f1,f2,f3⟩:=frame (h2':=hv ⟨msk ops i,h⟩ (Nat.lor MS (Nat.pow 2 i)) (f ops.size).eK) hI.sim (by rw[fS,fS]) hsub p1 p2 (by rw[fS])
   (Hw hA hm hbm (fun j hj=>iA hj) hal hdead)
  have hnx:=hI.nxt;have hfree:∀ j,j<ops.size->(bit MS j=false\/al (f ops.size).eK j=none)->Y2 (n0+j)=none:=fun j hj hb=>by rw[f2.agree _ (by rw[fS];omega)];exact hI.free j hj hb
  refine hK Y2 _ w1 (hI.next ht ho hm hE1 hE2 hE3 hE4 hput (p3.loc f0) (by rw[c2];exact f1) (f2.le hI.sim) (by rw[c2];exact hI.ext.trans f2) (fun j hj hb=>?_) (by
   rw[c2];intro j hj hb;simp only at hb ⊢;have hk:bit (iI B0 MS (f ops.size).eY).mask j=false:=by
    cases q:bit (iI B0 MS (f ops.size).eY).mask j with
    |false=>rfl
    |true=>rw[hbm j q] at hb;cases hb
   have g1:(hv (iI B0 MS (f ops.size).eY) (msk ops i) (f ops.size).eK).tr.get (n0+j)=none:=by rw[tA hA,hb];simp only[aW,false_and,if_false];exact hI.dead j hj hk
   by_cases q:bit MS j=true/\al (f ops.size).eK j≠none;·obtain⟨ob,hob⟩:=Option.ne_none_iff_exists'.1 q.2;refine f3 _ ob g1 ?_;rw[tA hA,if_pos ⟨q.1,hk⟩,hob];rfl
   .have hno:=hfree j hj (by
     cases r:bit MS j with
     |false=>exact .inl rfl
     |true=>exact .inr (Classical.byContradiction fun s=>q ⟨r,s⟩))
    cases r:h.tr.get (n0+j) with
    |none=>rfl
    |some ob=>
     obtain⟨L,_,l1,_⟩:=p1.live _ _ r;have l1:Y2 (n0+j)=some L:=by show Y2.loc _=_;rw[f0];exact l1
     rw[hno] at l1;cases l1) (by
   rw[c2];have:=p2.next;rw[fS] at this;simp only;omega)) (hdef _)
  refine hfree j hj (hb.imp (fun q=>?_) id);cases r:bit MS j with
  |false=>rfl
  |true=>rw[(iZ _ _ _).2 (.inl r)] at q;cases q
end
section
variable {P:Program}{G:Γ}{call:ic}{ops:Array Oper}
theorem Qh (hG:GOk P G)(hcall:pT P call){n0:Nat}{B0:Bs}{env0:Env}{f:Nat->DS}{V:Nat->Ev.V}(ht:Tr G call ops n0 B0 env0 f V)(hB:B0.mask=0)
  (hchk:oJ G (f ops.size).eK B0 (f ops.size).eY (f ops.size).reads=true){Y0:Ren}{h0:H}{w0:World}(hn0:h0.next=n0){F:Fence}(hF:xu F){n:Nat}{Q:Exit->Act->World->Prop}{ds:List Deferred}
  (hQ:∀ MS Y' a' w',(∀ j,j<ops.size->bit MS j=true)->Inv ops n0 B0 env0 (f ops.size) Y0 h0 w0 MS Y' a' w'->a'.defers=ds->Q .normal a' w'):
  ∀ (fuel:Nat) (listed:Array Bool) (MS:Nat) (Y:Ren) (a:Act) (w:World),Inv ops n0 B0 env0 (f ops.size) Y0 h0 w0 MS Y a w->a.defers=ds->(∀ j,j<ops.size->listed[j]?=some (bit MS j))->listed.toList.count false<=fuel ->
   wpAnyIn F n P .any ops Q fuel listed a w:=by
 have done:∀ (listed:Array Bool) (MS:Nat),(∀ j,j<ops.size->listed[j]?=some (bit MS j))->Region.ready .any ops listed=[]->∀ j,j<ops.size->bit MS j=true:=by
  intro listed MS hl hr j;induction j using Nat.strongRecOn with
  |ind j ih=>
   intro hj;cases q:bit MS j with
   |true=>rfl
   |false=>
    obtain⟨o,ho⟩:=Tr.op hj;have:j∈Region.ready .any ops listed:=by rw[mem_ready];refine⟨by rw[bL,hl j hj,q];rfl,o,ho,fun e he hbd=>?_⟩;have hlt:=ht.okr.back j o ho e (by simpa using he) hbd;rw[bL,hl _ (dF hlt hj),ih _ hlt (dF hlt hj)];rfl
    rw[hr] at this;simp at this
 intro fuel;induction fuel with
 |zero=>
  intro listed MS Y a w hI hd hl hc;have hno:¬ false∈listed.toList:=fun h=>by have:=List.count_pos_iff.2 h;omega
  have all:∀ j,j<ops.size->bit MS j=true:=fun j hj=>by
   cases q:bit MS j with
   |true=>rfl
   |false=>have:=hl j hj;rw[q] at this;exact absurd (Array.mem_toList_iff.2 (dg this)) hno
  refine⟨?_,hQ MS Y a w all hI hd⟩;rw[List.eq_nil_iff_forall_not_mem];intro j hj;rw[mem_ready] at hj;obtain⟨h1,o,ho,_⟩:=hj;have hlt:=(aD.1 ho).1;rw[bL,hl j hlt,all j hlt] at h1;cases h1
 |succ fuel ih=>
  intro listed MS Y a w hI hd hl hc;refine⟨fun hr=>hQ MS Y a w (done listed MS hl hr) hI hd,fun i hi=>?_⟩;rw[mem_ready] at hi;obtain⟨h1,o,ho,h2⟩:=hi;have hlt:=(aD.1 ho).1;rw[bL,hl i hlt] at h1;have h1:bit MS i=false:=h1;have hm:∀ j,bit (msk ops i) j=true->bit MS j=true:=fun j hj=>by
   obtain⟨e,e1,e2,e3⟩:=(wQ ho j).1 hj;have hb:=h2 e (by simpa using e1) e2;have hlt':=ht.okr.back i o ho e e1 e2;rw[bL,hl _ (dF hlt' hlt)] at hb;have hb:bit MS e.on=true:=hb;rcases e3 with rfl|⟨_,e4⟩;·exact hb
   .exact hI.closed _ hb j e4
  refine hI.step hG hcall ht hB hn0 hchk ho h1 hm hF fun Y' a' w' hI' hd'=>ih _ _ Y' a' w' hI' (hd'.trans hd) (fun j hj=>?_) ?_
  .by_cases e:i=j;·subst e;have hs:i<listed.size:=(aD.1 (hl i hlt)).1;rw[(iZ _ _ _).2 (.inr rfl)];simp[hs]
   .rw[bK e,hl j hj,iA (fun q=>e q.symm)]
  .have hs:i<listed.toList.length:=by rw[aT];exact(aD.1 (hl i hlt)).1
   have hg:listed.toList[i]=false:=by have:=hl i hlt;rw[h1,<- aM,ah hs] at this;simpa using this
   rw[Array.toList_setIfInBounds,List.count_set hs,hg];have:0<listed.toList.count false:=List.count_pos_iff.2 (by rw[<- hg];exact dA hs);have e1:(false == false)=true:=rfl;have e2:(true == false)=false:=rfl;rw[e1,e2];simp only[if_true,aW,if_false];omega
theorem Bc (hG:GOk P G)(hcall:pT P call){F:Fence}(hF:xu F){n id:Nat}{Q:Exit->Act->World->Prop}(hok:kV ops=true)(hmix:P.follows .mixedOrders=true){Y:Ren}{env env':Env}{h h':H}{a:Act}{w:World}
  (hr:Qg G call ops env h=some (env',h'))(hS:Sim Y h w)(he:iU Y env a.tmps)
  (hQ:∀ Y' a' w',Sim Y' h' w'->Ext Y h w Y' h' w'->iU Y' env' a'.tmps->a'.defers=a.defers->Q .normal a' w'):(Code.region id ops true).wpIn F n P Q a w:=by
 unfold Qg at hr;split at hr
 .rename_i s hrun;split at hr
  .rename_i hchk;cases hr;obtain⟨f,f1,f2,f3⟩:=uU hrun;rw[rD,aT,aI] at f2;subst f2;have kinds:∀ k,∃ v,∀ o,ops[k]?=some o->(f k).env.put o.dst v=some (f (k+1)).env/\Nv G call ops h.next k (msk ops k) o (f k) (f (k+1)) v:=fun k=>by
    cases ho:ops[k]? with
    |none=>exact⟨.nilp,fun o h=>by cases h⟩
    |some o=>have:=f3 k _ (tn ho);rw[aI] at this;obtain⟨v,a,b⟩:=Be this;exact⟨v,fun o' h=>by cases h;exact⟨a,b⟩⟩
   let V:Nat->Ev.V:=fun k=>Classical.choose (kinds k);have hV:=fun k=>Classical.choose_spec (kinds k);have ht:Tr G call ops h.next ⟨0,⟨h.tr,Nat.add h.next ops.toList.length⟩⟩ env f V:=⟨Bd hok,f1,fun k o ho=>(hV k o ho).1,fun k o ho=>(hV k o ho).2⟩;have hb0:∀ l,iI ⟨0,⟨h.tr,Nat.add h.next ops.toList.length⟩⟩ 0 l=⟨0,⟨h.tr,Nat.add h.next ops.toList.length⟩⟩:=fun l=>by have:=tB (B0:=⟨0,⟨h.tr,Nat.add h.next ops.toList.length⟩⟩) (m:=0) (l:=l) (l':=[]) fun e _=>gQ _;rw[cC] at this;rw[this];rfl
   have hh0:∀ A,hv ⟨0,⟨h.tr,Nat.add h.next ops.toList.length⟩⟩ 0 A=⟨h.tr,Nat.add h.next ops.toList.length⟩:=fun A=>by have:=HF (B:=⟨0,⟨h.tr,Nat.add h.next ops.toList.length⟩⟩) (m:=0) (l:=A) (A:=[]) fun e _=>gQ _;rw[cC] at this;rw[this];rfl
   have hno:∀ j,Y (h.next+j)=none:=fun j=>by
    cases q:Y (h.next+j) with
    |none=>rfl
    |some L=>have:=hS.dom _ _ q;omega
   refine wpIn_region_any hmix (Qh hG hcall ht rfl hchk rfl hF (ds:=a.defers) (Y0:=Y) (h0:=h) (w0:=w) (fun MS Y' a' w' hall hI hd=>?_) ops.size _ 0 Y a { w with drawn:=w.drawn+1 } ?_ rfl ?_ ?_)
   .have hMS:MS=Nat.sub (Nat.pow 2 ops.toList.length) 1:=by
     refine Nat.eq_of_testBit_eq fun j=>?_;show _=(2 ^ ops.toList.length - 1).testBit j;rw[Nat.testBit_two_pow_sub_one,<- tf,aT];by_cases hj:j<ops.size;·rw[hall j hj];simp[hj]
     .cases q:bit MS j with
      |true=>exact absurd (hI.bound j q) hj
      |false=>simp[hj]
    have hbase:iI ⟨0,⟨h.tr,Nat.add h.next ops.toList.length⟩⟩ MS (f ops.size).eY=(f ops.size).base:=by
     obtain⟨l',l1,l2⟩:=ht.eY ops.size 0 (by omega);rw[aI,ht.zero,cC] at l1;rcases ht.base ops.size (aF _) with⟨a,b⟩|⟨e,l,a,b⟩;·rw[a,b];rfl
     .have:e∈l':=by rw[<- l1,a];simp
      have:=(l2 e this).2.1;rw[a,b];simp only[iI,hall e.1 (by omega)]
    obtain⟨Ee,hE1,hE2,hE3,hE4⟩:=hI.env;have hsim:=hI.sim;have hext:=hI.ext;rw[hbase] at hsim hext;rw[hMS] at hsim hext;refine hQ Y' a' w' hsim hext ⟨by rw[ht.sz _ (aF _),<- hE2];exact hE1.1,fun t v hv=>hE1.2 t v ?_⟩ hd;rw[<- hv];by_cases q:∃ (j:Nat) (o:Oper),ops[j]?=some o/\o.dst=some t;·obtain⟨j,o,x,y⟩:=q;exact hE3 j o t (hall j (aD.1 x).1) x y
    .rw[hE4 t fun j o _ x y=>q ⟨j,o,x,y⟩,ht.tv (aF _) fun j o _ x y=>q ⟨j,o,x,y⟩]
   .refine⟨fun j hj=>(by rw[gQ] at hj;cases hj),fun i hi=>(by rw[gQ] at hi;cases hi),⟨env,he,rfl,fun j o t hj=>(by rw[gQ] at hj;cases hj),fun t _=>rfl⟩,?_,?_,fun j _ _=>hno j,fun j _ _=>?_,?_⟩;·rw[hb0,hh0];have:=hS.sub (h':=⟨h.tr,Nat.add h.next ops.toList.length⟩) (cY _ _) fun b o hb=>hb;exact⟨this.glob,this.dom,this.live,this.inj,this.ownlt,fun b os L x y=>(this.gho b os L x y).frame fun _ _=>rfl⟩
    .rw[hb0,hh0];exact⟨cY _ _,fun _ _=>rfl,fun _ _ q=>q,aF _,fun _ _ _=>rfl,fun b o B x y _=>⟨b,o,x,y,fun q=>q⟩,rfl,rfl,rfl⟩
    .rw[hb0];show h.tr.get _=none;cases q:h.tr.get (h.next+j) with
     |none=>rfl
     |some o=>obtain⟨L,_,l1,_⟩:=hS.live _ _ q;rw[hno j] at l1;cases l1
    .rw[hb0,<- aT];exact aF _
   .intro j hj;rw[gQ];simp[hj]
   .simp
  .cases hr
 .cases hr
end
def XE:Xx->Exit
 |.normal=>.normal
 |.exit id=>.exit id
 |.ret=>.ret
def yE (Y:Ren):List Nat->List Deferred->Prop
 |[],[]=>True
 |b :: l,d :: ds=>(∃ L,Y b=some L/\d.target=.collected L.1)/\yE Y l ds
 |_,_=>False
theorem yE.mono {Y Y':Ren}(hle:Y.le Y'):∀ {l:List Nat} {ds:List Deferred},yE Y l ds->yE Y' l ds
 |[],[],_=>trivial
 |_ :: _,_ :: _,h=>⟨let ⟨L,a,b⟩:=h.1;⟨L,hle _ _ a,b⟩,yE.mono hle h.2⟩
 |[],_ :: _,h=>h.elim
 |_ :: _,[],h=>h.elim
def Le (Y:Ren)(rd:Option Nat)(F:Fence):Prop:=
 match rd with
 |none=>F=Fence.wide
 |some l=>∃ L,Y l=some L/\F=Fence.wide.inRound L.1
theorem Le.mono {Y Y':Ren}(hle:Y.le Y'){rd:Option Nat}{F:Fence}(h:Le Y rd F):Le Y' rd F:=by
 cases rd with
 |none=>exact h
 |some l=>obtain⟨L,a,b⟩:=h;exact⟨L,hle _ _ a,b⟩
theorem Le.wide {Y:Ren}{rd:Option Nat}{F:Fence}(h:Le Y rd F):xu F:=by
 cases rd with
 |none=>exact .inl h
 |some l=>obtain⟨L,a,b⟩:=h;exact .inr ⟨_,b⟩
def Lf (P:Program)(ev:EvC):Prop:=
 ∀ c rd fn st x st',ev c rd fn st=some (x,st')->okC c=true->∀ Y F a w k Q,Le Y rd F->Sim Y st.h w->iU Y st.env a.tmps->yE Y st.defs a.defers ->
  (∀ Y' a' w',Sim Y' st'.h w'->Ext Y st.h w Y' st'.h w'->iU Y' st'.env a'.tmps->yE Y' st'.defs a'.defers->Q (XE x) a' w')->c.wpIn F k P Q a w
def sQ (tmps:Array Value):ResultVar->Sem Value
 |.tmp t=>pure (tmps.getD t undef)
 |.cell a t=>do loadVar t (<- asAddr (tmps.getD a undef))
theorem uM (fn:Func)(tmps:Array Value):results fn tmps=(do
  let vs <- fn.results.toList.mapM (sQ tmps)
  pure (if h:vs.toArray.size=1 then vs.toArray[0] else .tuple vs.toArray)):=by
 have key:∀ g:ResultVar->Sem Value,g=sQ tmps->(do
   let vs <- fn.results.mapM g
   pure (if h:vs.size=1 then vs[0] else .tuple vs))=(do
   let vs <- fn.results.toList.mapM (sQ tmps)
   pure (if h:vs.toArray.size=1 then vs.toArray[0] else .tuple vs.toArray)):=by
  intro g hg;rw[hg,Array.mapM_eq_mapM_toList];simp
 exact key _ (by funext r;cases r<;>rfl)
section
variable {P:Program}{G:Γ}(hG:GOk P G){Y:Ren}
theorem AW (hG:GOk P G){h:H}{w:World}{env:Env}{tmps:Array Value}(hS:Sim Y h w)(he:iU Y env tmps){r:ResultVar}{v:V}(hv:nF G h env r=some v):
  ∃ c,Rel Y v c/\(sQ tmps r).run P w=.ok c w:=by
 cases r with
 |tmp t=>obtain⟨c,h1,h2⟩:=he.2 t v hv;refine⟨c,h2,?_⟩;simp[sQ,bL,h1]
 |cell a t=>
  simp only[nF] at hv;cases ha:env.tr.get a with
  |none=>rw[ha] at hv;unfold jT at hv;split at hv<;>simp_all
  |some x=>
   obtain⟨c,h1,h2⟩:=he.2 a x ha;obtain⟨c',r1,r2⟩:=yT hG hS (ca:=c) hv (fun y hy=>by rw[ha] at hy;cases hy;exact h2);refine⟨c',r1,?_⟩;rw[ha] at hv;unfold jT at hv;split at hv
   .rename_i ty b o hty he;cases he;cases h2 with
    |ptr hb=>simp only[sQ,bL,h1,Option.getD_some];simpa [Instr.loadAt,Instr.sureAddr,asAddr] using r2
   .cases hv
theorem lT (hG:GOk P G){h:H}{w:World}{env:Env}{tmps:Array Value}(hS:Sim Y h w)(he:iU Y env tmps):∀ {l:List ResultVar} {vs:List V},eX (nF G h env) l=some vs ->
  ∃ cs,fH Y vs cs/\(l.mapM (sQ tmps)).run P w=.ok cs w
 |[],vs,h=>by simp[eX] at h;subst h;exact⟨[],fH.nil,by simp⟩
 |r :: l,vs,h=>by
  simp only[eX] at h;split at h
  .rename_i v hv;split at h;·rename_i us hu;cases h;obtain⟨c,c1,c2⟩:=AW hG hS he hv;obtain⟨cs,s1,s2⟩:=lT hG hS he hu;refine⟨c :: cs,fH.cons c1 s1,?_⟩;rw[List.mapM_cons];simp only[Sem.run_bind,c2,Result.andThen_ok,s2,Sem.run_pure]
   .cases h
  .cases h
theorem AX (hG:GOk P G){h:H}{w:World}{env:Env}{tmps:Array Value}(hS:Sim Y h w)(he:iU Y env tmps){fn:Func}{v:V}(hv:jK G h env fn=some v):
  ∃ c,Rel Y v c/\(results fn tmps).run P w=.ok c w:=by
 unfold jK at hv;split at hv;·rename_i u hu;cases hv;obtain⟨cs,s1,s2⟩:=lT hG hS he hu;obtain⟨c,cs',rfl,r1,r2⟩:=s1.zaa;have:=r2.of_nil;subst this;refine⟨c,r1,?_⟩;rw[uM];simp only[Sem.run_bind,s2,Result.andThen_ok,Sem.run_pure];simp
 .rename_i vs hne hu;cases hv;obtain⟨cs,s1,s2⟩:=lT hG hS he hu;refine⟨.tuple cs.toArray,.tuple (by simp[s1.1]) (fun i v x a b=>s1.2 i v x a (by simpa using b)),?_⟩;rw[uM];simp only[Sem.run_bind,s2,Result.andThen_ok,Sem.run_pure];have:cs.length≠1:=fun q=>by
   rw[s1.1] at q;obtain⟨a,ha⟩:=List.length_eq_one_iff.1 q;exact hne a ha
  simp[this]
 .cases hv
theorem yF (hG:GOk P G){F:Fence}{n:Nat}{fn:Func}{env:Env}{R:Ending->World->Prop}{v:V}{h2:H}(hv:jK G h2 env fn=some v):
  ∀ {defs:List Nat} {ds:List Deferred} {h:H} {w:World} {tmps:Array Value},kR defs h=some h2->yE Y defs ds->Sim Y h w->iU Y env tmps->(∀ c w2,Rel Y v c->Sim Y h2 w2->Ext Y h w Y h2 w2->R (.returned c) w2) ->
   LeavesInM F n P fn tmps R ds .returning w
 |[],[],h,w,tmps,ht,_,hS,he,hR=>by simp[kR] at ht;subst ht;obtain⟨c,c1,c2⟩:=AX hG hS he hv;exact⟨c,c2,hR c w c1 hS (Ext.refl _ _ _)⟩
 |b :: l,d :: ds,h,w,tmps,ht,hD,hS,he,hR=>by
  simp only[kR] at ht;split at ht
  .rename_i hb;obtain⟨⟨L,l1,l2⟩,hD⟩:=hD;obtain⟨L',c,q1,q2,q3⟩:=hS.live b _ hb;rw[l1] at q1;cases q1;simp only[jD] at q3;subst q3;have hsub:∀ x o,(h.set b none).tr.get x=some o->h.tr.get x=some o:=fun x o q=>by
    simp only[H.gj] at q;split at q;·cases q
    .exact q
   have hother:∀ B,B≠L.1->(w.putObj L.1 (.deferred none)).heap[B]?=w.heap[B]?:=fun B hB=>World.putObj_heap_other hB;have hS1:Sim Y (h.set b none) (w.putObj L.1 (.deferred none)):=by
    have hne:∀ x o B,(h.set b none).tr.get x=some o->Y.fp x B->B≠L.1:=fun x o B q hf e=>by have:=hS.inj x b o _ L.1 (hsub x o q) hb (.inr rfl) (by rw[<- e];exact hf) (Ren.uo l1);subst this;simp at q
    refine⟨hS.glob,hS.dom,fun x o q=>?_,(hS.sub (h':=h.set b none) (aF _) hsub).inj,fun x o B q hB=>?_,fun x os Lx q hLx=>(hS.gho x os Lx (hsub x _ q) hLx).frame fun B hB=>hother B (hne x _ B q (.inr hB))⟩;obtain⟨Lx,cx,x1,x2,x3⟩:=hS.live x o (hsub x o q);refine⟨Lx,cx,x1,?_,x3⟩;rw[hother Lx.1 fun e=>?_];·exact x2
    .exact hne x o _ q (Ren.uo x1) e
    .have:=hS.ownlt x o B (hsub x o q) hB;simpa using this
   have hXx:Ext Y h w Y (h.set b none) (w.putObj L.1 (.deferred none)):=
    ⟨aF _,fun _ _=>rfl,fun x _ q=>by rw[H.gj];split<;>first|rfl|exact q,by simp,fun B _ hn=>hother B fun e=>hn b _ hb rfl (Ren.Ep l1 e.symm),fun x o Lx q q' _=>⟨x,o,hsub x o q,q',id⟩,rfl,rfl,rfl⟩
   refine⟨by simp,.inl ⟨L.1,_,l2,run_takeDeferred q2,?_⟩⟩;exact yF hG hv ht hD hS1 he fun c w2 c1 c2 c3=>hR c w2 c1 c2 (hXx.trans c3)
  .cases ht
 |[],_ :: _,_,_,_,_,hD,_,_,_=>hD.elim
 |_ :: _,[],_,_,_,_,hD,_,_,_=>hD.elim
end
variable {args:List V}{f:FuncId}{fn:Func}
section
variable {P:Program}{G:Γ}(hG:GOk P G)
def pG (P:Program)(G:Γ):Prop:=
 ∀ f args h v h',G.ext f args h=some (v,h')->∀ Y (cargs:Array Value) w,fH Y args cargs.toList->Sim Y h w->∀ n,CallsIn Fence.wide n P f cargs w (Ret (Post Y h w v h'))
theorem sR:∀ (l:List V) (i:Nat) (t:T V) (k:Nat),(fT i l t).get k=if i<=k then (match l[k - i]? with
  |some v=>some v
  |none=>t.get k) else t.get k
 |[],i,t,k=>by simp[fT]
 |v :: l,i,t,k=>by
  simp only[fT];rw[sR l (Nat.succ i) _ k];by_cases h:i<=k
  .rw[if_pos h];by_cases e:i=k;·subst e;rw[if_neg (by omega),T.zab];simp
   .rw[if_pos (by omega),T.ia _ _ (by omega)];rw[show k - i=(k - Nat.succ i)+1 by omega,aQ]
  .rw[if_neg h,if_neg (by omega),T.ia _ _ (by omega)]
theorem JP {Y:Ren}{cargs:Array Value}(h:fH Y args cargs.toList){n:Nat}(hn:args.length<=n):
  iU Y ⟨n,fT 0 args .leaf⟩ (cargs++Array.replicate (n - cargs.size) undef):=by
 have hs:cargs.size=args.length:=by rw[<- h.1,aT]
 refine⟨by simp;omega,fun t v hv=>?_⟩;simp only[sR,cW,if_true,dw] at hv;split at hv
 .rename_i u hu;cases hv;obtain⟨c,c1,c2⟩:=h.get hu;refine⟨c,?_,c2⟩;have c1:cargs[t]?=some c:=by simpa using c1
  rw[dL (aD.1 c1).1];exact c1
 .cases hv
theorem fE   {c:Code} (hf:P.funcs[f]?=some fn) (hname:fn.name ≠ "runtime.NumGoroutine") (hb:fn.body=some c) (args:Array Value) (w:World):
  (callFunc f args).run P w=.ok (.enter f args) w:=by
 simp[callFunc,hf,hname,hb]
theorem qK   {e:Array Value->Sem Value} (hf:P.funcs[f]?=some fn) (hname:fn.name ≠ "runtime.NumGoroutine")
  (hb:fn.body=none)(hn:Extern.findNext fn=none)(he:Extern.find fn=some e)(args:Array Value)(w:World):
  (callFunc f args).run P w=((e args).run P w).andThen fun v w'=>.ok (.value v) w':=by
 simp[callFunc,hf,hname,hb,hn,he,mark,Sem.run]
def Vb (P:Program)(G:Γ)(ev:EvC):Prop:=
 ∀ f args h v h',uS G ev f args h=some (v,h')->∃ fn c,P.funcs[f]?=some fn/\fn.name ≠ "runtime.NumGoroutine"/\fn.body=some c /\
  ∀ Y (cargs:Array Value) w,fH Y args cargs.toList->Sim Y h w->∀ n,CallsIn Fence.wide n P f cargs w (Ret (Post Y h w v h'))
def pH (G:Γ):Prop:=∀ f fn c,G.funcs.get f=some fn->fn.body=some c->okC c=true
theorem sU (hG:GOk P G){ev:EvC}(hev:Lf P ev){c:Code}(hf:P.funcs[f]?=some fn)(hb:fn.body=some c)(hok:okC c=true){h h':H}{v:V}(hc:rC G ev f fn c args h=some (v,h'))
  {Y:Ren}{cargs:Array Value}{w:World}(ha:fH Y args cargs.toList)(hS:Sim Y h w)(n:Nat):CallsIn Fence.wide n P f cargs w (Ret (Post Y h w v h')):=by
 unfold rC at hc;split at hc
 .rename_i hn;have hn:args.length<=fn.ntmps:=az hn;split at hc
  .rename_i x st hev';have main:∀ h2,kR st.defs st.h=some h2->jK G h2 st.env fn=some v->h2=h'->(x=.normal\/x=.ret)->CallsIn Fence.wide n P f cargs w (Ret (Post Y h w v h')):=by
    intro h2 ht hr he hx;subst he;refine callsIn_of_wp_marks hf hb trivial ?_;refine hev c none f _ x st hev' hok Y Fence.wide _ w n _ rfl hS (JP ha hn) trivial fun Y' a' w' s1 s2 s3 s4=>?_;have:LeavesInM Fence.wide n P fn a'.tmps (Ret (Post Y h w v h2)) a'.defers .returning w':=
     yF hG hr ht s4 s1 s3 fun c w2 c1 c2 c3=>⟨c,rfl,Y',c2,s2.trans c3,c1⟩
    rcases hx with rfl|rfl;·exact this
    .exact this
   split at hc;·cases hc
   .rename_i hx;split at hc
    .rename_i h2 ht;split at hc
     .rename_i u hu;cases hc;refine main _ ht hu rfl ?_;cases x with
      |normal=>exact .inl rfl
      |ret=>exact .inr rfl
      |exit id=>exact absurd rfl (hx id)
     .cases hc
    .cases hc
  .cases hc
 .cases hc
theorem oC (hG:GOk P G){ev:EvC}(hev:Lf P ev)(hcodes:pH G)(hext:pG P G):Vb P G ev:=by
 intro f args h v h' hc;unfold uS at hc;split at hc;·cases hc
 .rename_i fn hf;obtain⟨hf',hname⟩:=hG.funcs f fn hf;split at hc;·cases hc
  .rename_i c hb;refine⟨fn,c,hf',hname,hb,fun Y cargs w ha hS n=>?_⟩;split at hc;·rename_i r hr;cases hc;exact hext f args h v h' hr Y cargs w ha hS n
   .exact sU hG hev hf' hb (hcodes f fn c hf hb) hc ha hS n
theorem D8 {r:Row}{h h':H}{v:V}(hc:wP r args h=some (v,h')){Y:Ren}{cargs:Array Value}{w:World}(ha:fH Y args cargs.toList)(hS:Sim Y h w):
  ∃ c w',(zF r cargs).run P w=.ok c w'/\Post Y h w v h' c w':=by
 unfold wP at hc;split at hc
 .rename_i t m;split at hc
  .rename_i es clock hm;cases hc;obtain⟨c,cs,e1,r1,r2⟩:=ha.zaa;have e2:=r2.of_nil;subst e2;have e1:cargs = #[c]:=by rw[<- aP (xs:=cargs),e1]
   subst e1;cases r1 with
   |iface _ q=>
    cases q with
    |map hb=>
     rename_i B d z;obtain⟨L,o,l1,l2,l3⟩:=hS.live m _ hm;rw[hb] at l1;cases l1;obtain⟨es',rfl,s1,s2⟩:=l3;have hid:=hS.fresh;have hother:∀ B,B<w.heap.size->(w.alloc (.map es' clock)).heap[B]?=w.heap[B]?:=fun B hB=>by show(w.heap.push _)[B]?=_;rw[cL,if_neg (by omega)]
     have hS':=hS.add (h':=h.add (.map es clock)) (w':=w.alloc (.map es' clock)) (o':=.map es clock) (L:=(w.heap.size,0,0)) (c':=.map es' clock) hid (by simp) (by simp) (fun x=>H.add_get h _ x) (aF _) (World.alloc_heap_new w _)
      ⟨es',rfl,s1,fun i e e' a b=>let ⟨x,y,z⟩:=s2 i e e' a b;⟨x.mono (Ren.gV Y _ hid),y.mono (Ren.gV Y _ hid),z⟩⟩ hother rfl
     have hXx:=Ext.add (Y:=Y) (h:=h) (h':=h.add (.map es clock)) (w:=w) (w':=w.alloc (.map es' clock)) (o':=.map es clock) (L:=(w.heap.size,0,0)) (aF _) (by simp) (fun x=>H.add_get h _ x) (aF _) (by show _<=(w.heap.push _).size;simp) hother rfl rfl rfl;refine⟨.iface t (.map (some w.heap.size)),w.alloc (.map es' clock),?_,_,hS',hXx,.iface t (.map (Ren.fF ..))⟩;have hg:(getObj B).run P w=.ok (.map es' clock) w:=by simp[getObj,Sem.run,l2]
     have key:∀ k:Obj->Sem Value,(∀ es clock,k (.map es clock)=(do pure (.iface t (.map (some (<- newObj (.map es clock)))))))->(do let o <- getObj B;k o:Sem Value).run P w=.ok (.iface t (.map (some w.heap.size))) (w.alloc (.map es' clock)):=by intro k hk;simp only[Sem.run_bind,hg,Result.andThen_ok,hk,run_newObj_alloc,Sem.run_pure]
     exact key _ fun _ _=>rfl
  .cases hc
 .cases hc;obtain⟨c,cs,e1,r1,r2⟩:=ha.zaa;have e2:=r2.of_nil;subst e2;have e1:cargs = #[c]:=by rw[<- aP (xs:=cargs),e1]
  subst e1;exact⟨c,w,rfl,Y,hS,Ext.refl _ _ _,r1⟩
 .cases hc
end
end Go.Ev
namespace Go.Ev
variable {Y:Ren}{h:H}{w:World}{l B d z:Nat}
section
variable {P:Program}{G:Γ}
theorem sV {Y:Ren}:∀ {ps:List Tmp} {vs:List V} {cs:List Value} {e e':Env} {tmps:Array Value},jV ps vs e=some e'->iU Y e tmps->fH Y vs cs ->
  cs.length=ps.length/\iU Y e' ((ps.zip cs).foldl (fun t p=>t.setIfInBounds p.1 p.2) tmps)
 |[],[],cs,e,e',tmps,h,he,hr=>by simp only[jV] at h;cases h;have:=hr.of_nil;subst this;exact⟨rfl,he⟩
 |p :: ps,v :: vs,cs,e,e',tmps,h,he,hr=>by
  simp only[jV] at h;split at h;·rename_i e1 h1;obtain⟨c,cs',rfl,r1,r2⟩:=hr.zaa;have:=kZ (a:=⟨tmps,[]⟩) (d:=some p) he h1 r1;obtain⟨a,b⟩:=sV h this r2;exact⟨by simp[a],b⟩
  .cases h
 |[],_ :: _,_,_,_,_,h,_,_=>by simp[jV] at h
 |_ :: _,[],_,_,_,_,h,_,_=>by simp[jV] at h
theorem lU (hS:Sim Y h w){lp:Lp}(hl:h.tr.get l=some (.loop lp))(hb:Y l=some (B,d,z)):
  ∃ l':Loop,w.heap[B]?=some (.loop l')/\l'.state=lp.state/\l'.pending=lp.pending/\l'.params.toList=lp.params/\l'.assign=lp.assign/\l'.body=lp.body/\iU Y lp.tmps l'.tmps/\okC lp.assign=true/\okC lp.body=true:=by
 obtain⟨L,c,l1,l2,l3⟩:=hS.live l _ hl;rw[hb] at l1;cases l1;obtain⟨l',rfl,rest⟩:=l3;exact⟨l',l2,rest⟩
theorem wG (hS:Sim Y h w){lp lp':Lp}(hl:h.tr.get l=some (.loop lp))(hb:Y l=some (B,d,z)){r:Loop}(ho:jD Y (.loop lp') (B,d,z) (.loop r)):
  Sim Y (h.set l (some (.loop lp'))) (w.putObj B (.loop r))/\Ext Y h w Y (h.set l (some (.loop lp'))) (w.putObj B (.loop r)):=by
 have hlt:B<w.heap.size:=hS.lt hl hb;exact⟨hS.set hl hb (World.putObj_heap_same hlt) ho (fun B' hB'=>World.putObj_heap_other hB') rfl rfl,Ext.set hl hb rfl (by simp) (fun B' hB'=>World.putObj_heap_other hB') rfl rfl rfl⟩
theorem D9 {s:LoopState}(h:isReady s=true):s=.ready:=by cases s<;>simp_all [isReady]
theorem Hh {s:LoopState}(h:yN s=false):s≠.busy:=by cases s<;>simp_all [yN]
theorem qu {ev:EvC}(hev:Lf P ev){args:List V}{h':H}{v:V}(hc:oK ev l args h=some (v,h'))(hS:Sim Y h w)(hb:Y l=some (B,d,z)){cargs:Array Value}(ha:fH Y args cargs.toList):
  jy P ((Instr.yield B cargs).run P w) (Post Y h w v h'):=by
 unfold oK at hc;split at hc
 .rename_i lp hl;obtain⟨r,r1,r2,r3,r4,r5,r6,r7,r8,r9⟩:=lU hS hl hb;split at hc
  .rename_i env hput;obtain⟨p1,p2⟩:=sV hput r7 ha;have hsz:cargs.size=r.params.size:=by rw[<- aT,p1,<- r4,aT]
   rw[run_yield r1 hsz];have htm:(r.params.zip cargs).foldl (fun tmps x=>tmps.setIfInBounds x.1 x.2) r.tmps=(lp.params.zip cargs.toList).foldl (fun t p=>t.setIfInBounds p.1 p.2) r.tmps:=by rw[<- Array.foldl_toList,Array.toList_zip,r4]
   intro n;refine roundIn_of_wpIn trivial ?_;split at hc
   .rename_i st hst;rw[r5];refine hev lp.assign (some l) lp.fn _ .normal st hst r8 Y _ _ w n _ ⟨(B,d,z),hb,rfl⟩ hS (by rw[<- htm] at p2;exact p2) trivial fun Y1 a1 w1 s1 s2 s3 s4=>?_;have hb1:=s2.le hS _ _ hb;split at hc
    .rename_i lp1 hl1 hd1;rw[hd1] at s4;split at hc
     .rename_i hrd;obtain⟨q,q1,q2,q3,q4,q5,q6,q7,q8,q9⟩:=lU s1 hl1 hb1;refine⟨_,run_beginRound q1 (by rw[q2];exact D9 hrd),?_⟩;obtain⟨t1,t2⟩:=wG (lp':={ lp1 with state:=.busy }) s1 hl1 hb1 (r:={ q with state:=.busy }) ⟨_,rfl,rfl,q3,q4,q5,q6,q7,q8,q9⟩;split at hc
      .rename_i x st2 hst2;rw[r6];refine hev lp.body (some l) lp.fn _ x st2 hst2 r9 Y1 _ a1 _ n _ ⟨(B,d,z),hb1,rfl⟩ t1 s3 (by cases ha1:a1.defers with
        |nil=>trivial
        |cons d ds=>rw[ha1] at s4;exact s4.elim) fun Y2 a2 w2 u1 u2 u3 u4=>?_
       have hb2:=u2.le t1 _ _ hb1;split at hc
       .rename_i lp2 hl2 hd2;obtain⟨k,k1,k2,k3,k4,k5,k6,k7,k8,k9⟩:=lU u1 hl2 hb2;have fin:∀ (jump:Option Code) (lpe:Lp),lpe={ lp2 with state:=if jump.isNone then .ready else .done,pending:=jump }->v=.bool jump.isNone->h'=st2.h.set l (some (.loop lpe)) ->
          ∃ v' w',(Instr.endRound B jump).run P w2=.ok v' w'/\Ret (Post Y h w v h') (.returned v') w':=by
         intro jump lpe e1 e2 e3;subst e1;subst e2;subst e3;obtain⟨x1,x2⟩:=wG (lp':={ lp2 with state:=if jump.isNone then .ready else .done,pending:=jump }) u1 hl2 hb2 (r:={ k with state:=if jump.isNone then .ready else .done,pending:=jump }) ⟨_,rfl,rfl,rfl,k4,k5,k6,k7,k8,k9⟩;exact⟨_,_,run_endRound jump k1,_,rfl,Y2,x1,((s2.trans t2).trans u2).trans x2,.bool _⟩
        cases x with
        |normal=>simp only[sY] at hc;cases hc;exact fin none _ rfl rfl rfl
        |ret=>simp only[sY] at hc;cases hc;exact fin (some .ret) _ rfl rfl rfl
        |exit id=>simp only[sY] at hc;cases hc;exact fin (some (.exit id)) _ rfl rfl rfl
       .cases hc
      .cases hc
     .cases hc
    .cases hc
   .cases hc
  .cases hc
 .cases hc
theorem wH (hG:GOk P G){ev:EvC}(hev:Lf P ev)(hcodes:pH G)(hext:pG P G):pT P (yM G ev):=by
 intro t s Y h w v h' hT hS hc;cases t with
 |fn f args=>
  obtain⟨cargs,ha,rfl⟩:=hT;simp only[yM,Hs] at hc;split at hc;·rename_i r hr;obtain⟨fn,f1,f2,f3,f4,f5⟩:=hG.rows f r hr;obtain⟨c,w',c1,c2⟩:=D8 (P:=P) hc ha hS;rw[qK f1 f2 f3 f4 f5,c1];exact c2
  .obtain⟨fn,c,f1,f2,f3,f4⟩:=oC hG hev hcodes hext f args h v h' hc;rw[fE f1 f2 f3];exact f4 Y cargs w ha hS
 |yield l args=>obtain⟨B,d,z,cargs,hb,ha,rfl⟩:=hT;exact qu hev hc hS hb ha
end
end Go.Ev
namespace Go.Ev
variable {Y:Ren}{h:H}{w:World}
section
variable {P:Program}{G:Γ}
theorem least {p:Nat->Prop}(h:∃ n,p n):∃ n,p n/\∀ m,p m->n<=m:=by
 obtain⟨n,hn⟩:=h;induction n using Nat.strongRecOn with
 |ind n ih=>
  by_cases q:∃ m,m<n/\p m;·obtain⟨m,a,b⟩:=q;exact ih m a b
  .exact⟨n,hn,fun m hm=>by
    rcases Nat.lt_or_ge m n with h|h;·exact absurd ⟨m,h,hm⟩ q
    .exact h⟩
theorem jS {F:Fence}{n:Nat}{Q:Exit->Act->World->Prop}{c:Code}(Jj:Nat->Act->World->Prop)
  (round:∀ m a w,Jj m a w->c.wpIn F n P (Exit.then (fun a' w'=>∃ m',m'<m/\Jj m' a' w') Q) a w){m:Nat}{a:Act}{w:World}(h0:Jj m a w):(Code.loop c).wpIn F n P Q a w:=by
 have hl:∀ a w,∃ k,(∃ m,Jj m a w)->Jj k a w/\∀ m,Jj m a w->k<=m:=fun a w=>by
  by_cases h:∃ m,Jj m a w;·obtain⟨k,k1,k2⟩:=least h;exact⟨k,fun _=>⟨k1,k2⟩⟩
  .exact⟨0,fun q=>absurd q h⟩
 let μ:Act->World->Nat:=fun a w=>Classical.choose (hl a w);have hμ:∀ a w,(∃ m,Jj m a w)->Jj (μ a w) a w/\∀ m,Jj m a w->μ a w<=m:=fun a w=>Classical.choose_spec (hl a w);refine wpIn_loop (fun a w=>∃ m,Jj m a w) μ ⟨m,h0⟩ fun a w hI=>?_;obtain⟨h1,_⟩:=hμ a w hI;refine wpIn_mono (round _ a w h1) fun e a' w' he=>?_;cases e with
 |normal=>obtain⟨m',a1,a2⟩:=he;exact⟨⟨m',a2⟩,Nat.lt_of_le_of_lt ((hμ a' w' ⟨m',a2⟩).2 m' a2) a1⟩
 |exit _=>exact he
 |goto _=>exact he
 |ret=>exact he
 |panic _=>exact he
 |outgrown=>exact he
theorem wI (hS:Sim Y h w){lp:Lp}{r:Loop}(ho:∀ Y',Y.le Y'->jD Y' (.loop lp) (w.heap.size,0,0) (.loop r)):
  Sim (Y.with h.next (w.heap.size,0,0)) (h.add (.loop lp)) (w.alloc (.loop r))/\Ext Y h w (Y.with h.next (w.heap.size,0,0)) (h.add (.loop lp)) (w.alloc (.loop r)):=by
 have hother:∀ B,B<w.heap.size->(w.alloc (.loop r)).heap[B]?=w.heap[B]?:=fun B hB=>by show(w.heap.push _)[B]?=_;rw[cL,if_neg (by omega)]
 exact⟨hS.add (o':=.loop lp) (L:=(w.heap.size,0,0)) hS.fresh (by simp) (by simp) (fun x=>H.add_get h _ x) (aF _) (World.alloc_heap_new w _) (ho _ (Ren.gV Y _ hS.fresh)) hother rfl,
  Ext.add (o':=.loop lp) (L:=(w.heap.size,0,0)) (aF _) (by simp) (fun x=>H.add_get h _ x) (aF _) (by show _<=(w.heap.push _).size;simp) hother rfl rfl rfl⟩
theorem Hj (hS:Sim Y h w):
  Sim (Y.with h.next (w.heap.size,0,0)) (h.add .deferred) (w.alloc (.deferred (some [])))/\Ext Y h w (Y.with h.next (w.heap.size,0,0)) (h.add .deferred) (w.alloc (.deferred (some []))):=by
 have hother:∀ B,B<w.heap.size->(w.alloc (.deferred (some []))).heap[B]?=w.heap[B]?:=fun B hB=>by show(w.heap.push _)[B]?=_;rw[cL,if_neg (by omega)]
 exact⟨hS.add (o':=.deferred) (L:=(w.heap.size,0,0)) hS.fresh (by simp) (by simp) (fun x=>H.add_get h _ x) (aF _) (World.alloc_heap_new w _) rfl hother rfl,
  Ext.add (o':=.deferred) (L:=(w.heap.size,0,0)) (aF _) (by simp) (fun x=>H.add_get h _ x) (aF _) (by show _<=(w.heap.push _).size;simp) hother rfl rfl rfl⟩
theorem nC {F:Fence}{k:Nat}{l:Nat}{env:Env}{defs:List Nat}{x:Xx}{st':St}(he:jg l env defs h=some (x,st')){Y1:Ren}{h0:H}{w0:World}{a:Act}{Q:Exit->Act->World->Prop}
  (hXx:Ext Y h0 w0 Y1 h w)(hS:Sim Y1 h w){B d z:Nat}(hb:Y1 l=some (B,d,z))(hEe:iU Y1 env a.tmps)(hD:yE Y1 defs a.defers)
  (hQ:∀ Y' a' w',Sim Y' st'.h w'->Ext Y h0 w0 Y' st'.h w'->iU Y' st'.env a'.tmps->yE Y' st'.defs a'.defers->Q (XE x) a' w'):
  ∃ jump w₄,(Instr.endLoop B).run P w=.ok jump w₄/\(match jump with
   |none=>Q .normal a w₄
   |some c=>c.wpIn F k P Q a w₄):=by
 unfold jg at he;split at he
 .rename_i lp hl;split at he;·cases he
  .rename_i hbu;obtain⟨r,r1,r2,r3,r4,r5,r6,r7,r8,r9⟩:=lU hS hl hb;obtain⟨t1,t2⟩:=wG (lp':={ lp with state:=.exhausted }) hS hl hb (r:={ r with state:=.exhausted }) ⟨_,rfl,rfl,r3,r4,r5,r6,r7,r8,r9⟩;have hrun:=run_endLoop (P:=P) r1 (by rw[r2];exact Hh hbu);obtain⟨W,hW⟩:∃ W,w.putObj B (.loop { r with state:=.exhausted })=W:=⟨_,rfl⟩;rw[hW] at t1 t2 hrun;refine⟨_,W,hrun,?_⟩;rw[r3];split at he;·rename_i hp;cases he;rw[hp];exact hQ Y1 a _ t1 (hXx.trans t2) hEe hD
   .rename_i hp;cases he;rw[hp];exact wpIn_ret (hQ Y1 a _ t1 (hXx.trans t2) hEe hD)
   .rename_i id hp;cases he;rw[hp];exact wpIn_exit (hQ Y1 a _ t1 (hXx.trans t2) hEe hD)
   .cases he
 .cases he
theorem Hl (hG:GOk P G){ev:EvC}(hev:Lf P ev)(hcodes:pH G)(hext:pG P G){f:Operand}{params:Array Tmp}{assign body:Code}{rd:Option Nat}{fn:FuncId}{st st':St}{x:Xx}
  (hr:Ht G ev f params assign body rd fn st=some (x,st'))(hok1:okC assign=true)(hok2:okC body=true){Y:Ren}{F:Fence}{a:Act}{w:World}{k:Nat}{Q:Exit->Act->World->Prop}
  (hF:Le Y rd F)(hS:Sim Y st.h w)(hEe:iU Y st.env a.tmps)(hD:yE Y st.defs a.defers)
  (hQ:∀ Y' a' w',Sim Y' st'.h w'->Ext Y st.h w Y' st'.h w'->iU Y' st'.env a'.tmps->yE Y' st'.defs a'.defers->Q (XE x) a' w'):(Code.rangeFunc f params assign body).wpIn F k P Q a w:=by
 have hW:=hF.wide;have hev1:=jO (a:=a) hS.glob hEe;unfold Ht at hr;split at hr
 .rename_i g first captured hf
  have hF:F=Fence.wide:=hF;split at hr
  .rename_i v h1 hcall;have hrel:=hev1 _ _ hf;generalize hcf:a.eval f=cf at hrel;cases hrel with
   |func _ a1 a2 a3 a4=>
    rename_i A C;refine wpIn_rangeFunc fun fn' _=>?_;obtain⟨S1,Xx1⟩:=Hj hS;have hle1:=Xx1.le hS;obtain⟨S2,Xx2⟩:=wI (lp:=⟨.ready,none,fn,st.env,params.toList,assign,body,st.h.next⟩) (r:={ state:=.ready,pending:=none,fn:=fn',tmps:=a.tmps,params,assign,body,defers:=w.heap.size }) S1
     (fun Y' hle=>⟨_,rfl,rfl,rfl,rfl,rfl,rfl,hEe.mono (hle1.trans hle),hok1,hok2⟩)
    have hle2:=Xx2.le S1;have hXx:=Xx1.trans Xx2;have hle:=hXx.le hS;rw[World.size_alloc] at S2 Xx2 hle2 hXx hle;obtain⟨W2,hW2⟩:∃ W2,(w.alloc (.deferred (some []))).alloc (.loop { state:=.ready,pending:=none,fn:=fn',tmps:=a.tmps,params,assign,body,defers:=w.heap.size })=W2:=⟨_,rfl⟩;rw[hW2] at S2 Xx2 hXx;obtain⟨fg,cg,g1,g2,g3,g4⟩:=oC hG hev hcodes hext _ _ _ _ _ hcall;have hargs:fH ((Y.with st.h.next (w.heap.size,0,0)).with (st.h.add .deferred).next (w.heap.size+1,0,0)) (first++[.func (.yield (Nat.succ st.h.next)) [] []]++captured) (A++#[Value.func (.yield (w.heap.size+1)) #[] #[]]++C).toList:=by simp only[dz];refine fH.append (fH.append ⟨by simpa using a1,fun i v y p q=>(a3 i v y p (by simpa using q)).mono hle⟩ ?_) ⟨by simpa using a2,fun i v y p q=>(a4 i v y p (by simpa using q)).mono hle⟩;exact fH.cons (.yield (Ren.fF _ (st.h.add .deferred).next _)) fH.nil
    refine⟨w.heap.size+1,[{ target:=.collected w.heap.size,args:=#[] }],W2,{ target:=.fn (.func g) C,args:=A++#[Value.func (.yield (w.heap.size+1)) #[] #[]] },W2,g,(A++#[Value.func (.yield (w.heap.size+1)) #[] #[]])++C,W2,?_,?_,?_,?_,?_,?_⟩;·rw[hF,<- hW2];exact run_enterLoop_outer _ _ _ _ _
    .have hy:a.eval (.const (.func (.yield (w.heap.size+1)) #[] #[]))=.func (.yield (w.heap.size+1)) #[] #[]:=rfl;simp[resolve,hcf,Deferred.ofValue,hy]
    .intro f' _;exact hW.fn f'
    .simp only[invoke];exact fE g1 g2 g3 _ _
    .intro q;rw[hW.depth] at q;simp at q
    .rw[hF];refine(g4 _ _ _ hargs S2 (k - 1)).mono fun e w3 he=>?_;obtain⟨c,rfl,Y3,c1,c2,c3⟩:=he;have hX3:=hXx.trans c2;have hle3:=hX3.le hS;have hl3:Y3 (Nat.succ st.h.next)=some (w.heap.size+1,0,0):=c2.le S2 _ _ (Ren.fF _ (st.h.add .deferred).next _);have hd3:Y3 st.h.next=some (w.heap.size,0,0):=c2.le S2 _ _ (hle2 _ _ (Ren.fF ..));exact nC (a:={ a with defers:={ target:=.collected w.heap.size,args:=#[] } :: a.defers }) hr hX3 c1 hl3 (hEe.mono hle3) ⟨⟨_,hd3,rfl⟩,hD.mono hle3⟩ hQ
  .cases hr
 .rename_i g first captured l0 hf
  obtain⟨L0,hL0,hF⟩:=hF;split at hr
  .rename_i lp0 hl0;obtain⟨B0,d0,z0⟩:=L0;obtain⟨r0,q1,_⟩:=lU hS hl0 hL0;split at hr
   .rename_i v h1 hcall;have hrel:=hev1 _ _ hf;generalize hcf:a.eval f=cf at hrel;cases hrel with
    |func _ a1 a2 a3 a4=>
     rename_i A C;refine wpIn_rangeFunc fun fn' _=>?_;obtain⟨S2,Xx2⟩:=wI (lp:=⟨.ready,none,fn,st.env,params.toList,assign,body,lp0.defers⟩) (r:={ state:=.ready,pending:=none,fn:=fn',tmps:=a.tmps,params,assign,body,defers:=r0.defers }) hS
      (fun Y' hle=>⟨_,rfl,rfl,rfl,rfl,rfl,rfl,hEe.mono hle,hok1,hok2⟩)
     have hle:=Xx2.le hS;obtain⟨W2,hW2⟩:∃ W2,w.alloc (.loop { state:=.ready,pending:=none,fn:=fn',tmps:=a.tmps,params,assign,body,defers:=r0.defers })=W2:=⟨_,rfl⟩;rw[hW2] at S2 Xx2;obtain⟨fg,cg,g1,g2,g3,g4⟩:=oC hG hev hcodes hext _ _ _ _ _ hcall;have hargs:fH (Y.with st.h.next (w.heap.size,0,0)) (first++[.func (.yield st.h.next) [] []]++captured) (A++#[Value.func (.yield w.heap.size) #[] #[]]++C).toList:=by simp only[dz];refine fH.append (fH.append ⟨by simpa using a1,fun i v y p q=>(a3 i v y p (by simpa using q)).mono hle⟩ ?_) ⟨by simpa using a2,fun i v y p q=>(a4 i v y p (by simpa using q)).mono hle⟩;exact fH.cons (.yield (Ren.fF ..)) fH.nil
     refine⟨w.heap.size,[],W2,{ target:=.fn (.func g) C,args:=A++#[Value.func (.yield w.heap.size) #[] #[]] },W2,g,(A++#[Value.func (.yield w.heap.size) #[] #[]])++C,W2,?_,?_,?_,?_,?_,?_⟩;·rw[hF,<- hW2];exact run_enterLoop_inner q1 _ _ _ _ _
     .have hy:a.eval (.const (.func (.yield w.heap.size) #[] #[]))=.func (.yield w.heap.size) #[] #[]:=rfl;simp[resolve,hcf,Deferred.ofValue,hy]
     .intro f' _;exact hW.fn f'
     .simp only[invoke];exact fE g1 g2 g3 _ _
     .intro q;rw[hW.depth] at q;simp at q
     .rw[hF];refine CallsIn.inRound _ ((g4 _ _ _ hargs S2 (k - 1)).mono fun e w3 he=>?_);obtain⟨c,rfl,Y3,c1,c2,c3⟩:=he;have hX3:=Xx2.trans c2;have hle3:=hX3.le hS;have hl3:Y3 st.h.next=some (w.heap.size,0,0):=c2.le S2 _ _ (Ren.fF ..);exact nC (a:=a) hr hX3 c1 hl3 (hEe.mono hle3) (hD.mono hle3) hQ
   .cases hr
  .cases hr
 .cases hr
theorem Ho (hG:GOk P G)(hcodes:pH G)(hext:pG P G):∀ n,Lf P (evC G n):=by
 intro n;induction n using Nat.strongRecOn with
 |ind n ih=>
  intro c rd fn st x st' hr hok Y F a w k Q hF hS hEe hD hQ;cases n with
  |zero=>simp[evC] at hr
  |succ n=>
   obtain⟨env,h,defs⟩:=st;have ihn:=ih n (cF n);cases c<;>simp only[evC] at hr;case skip=>cases hr;exact wpIn_skip (hQ Y a w hS (Ext.refl _ _ _) hEe hD)
   case exit id=>cases hr;exact wpIn_exit (hQ Y a w hS (Ext.refl _ _ _) hEe hD)
   case ret=>cases hr;exact wpIn_ret (hQ Y a w hS (Ext.refl _ _ _) hEe hD)
   case region id ops draw=>
    have hcall:=wH hG ihn hcodes hext;cases draw with
    |false=>
     simp only at hr;split at hr;·rename_i env' h' hreg;cases hr;refine wpIn_region ?_;rw[List.range_eq_range'];have:=Bv hG hcall hF.wide (n:=k) (ops:=ops) (Q:=Q) ops.toList 0 rfl Y env env' h h' a w hreg hS hEe fun Y' a' w' q1 q2 q3 q4=>hQ Y' a' w' q1 q2 q3 (by rw[q4];exact hD.mono (q2.le hS));rwa [aT] at this
     .cases hr
    |true=>
     simp only at hr;split at hr;·rename_i env' h' hreg;cases hr;exact Bc hG hcall hF.wide hok hG.mixed hreg hS hEe fun Y' a' w' q1 q2 q3 q4=>hQ Y' a' w' q1 q2 q3 (by rw[q4];exact hD.mono (q2.le hS))
     .cases hr
   case seq c1 c2=>
    simp only[okC,ae] at hok;refine wpIn_seq ?_;split at hr;·rename_i st1 h1;refine ihn c1 rd fn _ .normal st1 h1 hok.1 Y F a w k _ hF hS hEe hD fun Y1 a1 w1 s1 s2 s3 s4=>?_;exact ihn c2 rd fn st1 x st' hr hok.2 Y1 F a1 w1 k Q (hF.mono (s2.le hS)) s1 s3 s4 fun Y' a' w' q1 q2 q3 q4=>hQ Y' a' w' q1 (s2.trans q2) q3 q4
    .rename_i r hne;refine ihn c1 rd fn _ x st' hr hok.1 Y F a w k _ hF hS hEe hD fun Y1 a1 w1 s1 s2 s3 s4=>?_;have:=hQ Y1 a1 w1 s1 s2 s3 s4;cases x with
     |normal=>exact absurd hr (hne st')
     |exit id=>exact this
     |ret=>exact this
   case cond c c1 c2=>
    simp only[okC,ae] at hok;have hev:=jO (a:=a) hS.glob hEe;split at hr;·rename_i hc;have:=hev _ _ hc;generalize hcc:a.eval c=cc at this;cases this;exact wpIn_cond_true hcc (ihn c1 rd fn _ x st' hr hok.1 Y F a w k Q hF hS hEe hD hQ)
    .rename_i hc;have:=hev _ _ hc;generalize hcc:a.eval c=cc at this;cases this;exact wpIn_cond_false hcc (ihn c2 rd fn _ x st' hr hok.2 Y F a w k Q hF hS hEe hD hQ)
    .cases hr
   case block id b=>
    simp only[okC] at hok;refine wpIn_block ?_;split at hr
    .rename_i id' st1 h1;refine ihn b rd fn _ (.exit id') st1 h1 hok Y F a w k _ hF hS hEe hD fun Y1 a1 w1 s1 s2 s3 s4=>?_;simp only[XE,Exit.inBlock];split at hr;·rename_i he;rw[T.beq_true] at he;cases hr;rw[if_pos he];exact hQ Y1 a1 w1 s1 s2 s3 s4
     .rename_i he;cases hr;rw[if_neg (fun q=>by rw[q] at he;simp at he)];exact hQ Y1 a1 w1 s1 s2 s3 s4
    .rename_i r hne;refine ihn b rd fn _ x st' hr hok Y F a w k _ hF hS hEe hD fun Y1 a1 w1 s1 s2 s3 s4=>?_;have:=hQ Y1 a1 w1 s1 s2 s3 s4;cases x with
     |normal=>exact this
     |exit id'=>exact absurd hr (hne id' st')
     |ret=>exact this
   case loop b=>
    simp only[okC] at hok;refine jS (fun m a1 w1=>m<=n+1/\∃ Y1 st1,evC G m (.loop b) rd fn st1=some (x,st')/\Sim Y1 st1.h w1/\Ext Y h w Y1 st1.h w1/\iU Y1 st1.env a1.tmps/\yE Y1 st1.defs a1.defers) (fun m a1 w1 hJ=>?_)
     (m:=n+1) ⟨aF _,Y,⟨env,h,defs⟩,by simp only[evC];exact hr,hS,Ext.refl _ _ _,hEe,hD⟩
    obtain⟨hm,Y1,st1,e1,s1,s2,s3,s4⟩:=hJ;cases m with
    |zero=>simp[evC] at e1
    |succ m=>
     obtain⟨env1,h1,defs1⟩:=st1;simp only[evC] at e1;have ihm:=ih m (by omega);have hF1:=hF.mono (s2.le hS);split at e1;·rename_i st2 h2;refine ihm b rd fn _ .normal st2 h2 hok Y1 F a1 w1 k _ hF1 s1 s3 s4 fun Y2 a2 w2 t1 t2 t3 t4=>?_;exact⟨m,cF m,by omega,Y2,st2,e1,t1,s2.trans t2,t3,t4⟩
     .rename_i r hne;refine ihm b rd fn _ x st' e1 hok Y1 F a1 w1 k _ hF1 s1 s3 s4 fun Y2 a2 w2 t1 t2 t3 t4=>?_;have:=hQ Y2 a2 w2 t1 (s2.trans t2) t3 t4;cases x with
      |normal=>exact absurd e1 (hne st')
      |exit id=>exact this
      |ret=>exact this
   case rangeFunc f params assign body=>simp only[okC,ae] at hok;exact Hl hG ihn hcodes hext hr hok.1 hok.2 hF hS hEe hD hQ
   all_goals cases hr
theorem Qb (hG:GOk P G)(hcodes:pH G)(hext:pG P G){n:Nat}{f:FuncId}{args:List V}{h':H}{v:V}(hr:evT G n f args h=some (v,h')){cargs:Array Value}(ha:fH Y args cargs.toList)(hS:Sim Y h w)(k:Nat):
  CallsIn Fence.wide k P f cargs w (Ret (Post Y h w v h')):=by
 obtain⟨_,_,_,_,_,h4⟩:=oC hG (Ho hG hcodes hext n) hcodes hext f args h v h' hr;exact h4 Y cargs w ha hS k
end
end Go.Ev
namespace Go.Ev
noncomputable section
def mkG (P:Program)(eqs:List TypeId)(rows:List (FuncId×Row))(ext:FuncId->List V->H->Option (V×H)):Γ:=
 {funcs:=T.ofList some P.funcs.size P.funcs.toList,types:=T.ofList (Q6 (T.ofList some P.types.size P.types.toList)) P.types.size P.types.toList,eqs,
  rows:=fun f=>match rows.find? (fun r=>Nat.beq r.1 f) with
   |some r=>some r.2
   |none=>none,ext }
def Ra:List Value->Bool
 |[]=>true
 |v :: l=>one v&&Ra l
def oR (G:Γ)(size:Nat)(f:Field):Bool:=
 match G.ty f.type with
 |some ft=>Nat.ble (Nat.add f.offset ft.size) size&&(ft.agg || Nat.blt 0 ft.size)
 |none=>false
def jx (G:Γ)(size:Nat):List Field->Bool
 |[]=>true
 |f :: l=>oR G size f&&jx G size l
def nQ (G:Γ)(t:TypeId)(i:TypeInfo):Bool:=
 match G.ty t with
 |none=>true
 |some ty=>
  Nat.ble i.bytes 1048576 &&
  (match i.zero with
    |some z=>Nat.beq z.cells.size i.size&&Ra z.cells.toList
    |none=>false) &&
  (match ty.desc with
    |.struct fs=>jx G ty.size fs.toList
    |_=>true)
def iq (G:Γ):List TypeInfo->Nat->Bool
 |[],_=>true
 |i :: l,t=>nQ G t i&&iq G l (Nat.succ t)
def tK (fn:Func):Bool:=
 !(fn.name == "runtime.NumGoroutine")&&(match fn.body with
  |some c=>okC c
  |none=>true)
def oS:List Func->Bool
 |[]=>true
 |fn :: l=>tK fn&&oS l
def zu (P:Program):List TypeId->Bool
 |[]=>true
 |t :: l=>!P.eqGuardType P.depth t&&!P.stoodInHeld t&&zu P l
end
section
variable {P:Program}{eqs:List TypeId}{rows:List (FuncId×Row)}{ext:FuncId->List V->H->Option (V×H)}
theorem H8:∀ {l:List Value},Ra l=true->∀ x,x∈l->one x=true
 |[],_,x,h=>by simp at h
 |v :: l,h,x,hx=>by
  simp only[Ra,ae] at h;rcases aq.1 hx with rfl|hx
  .exact h.1
  .exact H8 h.2 x hx
theorem qC {G:Γ}{s:Nat}:∀ {l:List Field},jx G s l=true->∀ f,f∈l->oR G s f=true
 |[],_,x,h=>by simp at h
 |v :: l,h,x,hx=>by
  simp only[jx,ae] at h;rcases aq.1 hx with rfl|hx
  .exact h.1
  .exact qC h.2 x hx
theorem nU {G:Γ}:∀ {l:List TypeInfo} {k:Nat},iq G l k=true->∀ t i,l[t]?=some i->nQ G (k+t) i=true
 |[],_,_,t,i,h=>by simp at h
 |v :: l,k,h,t,i,ht=>by
  simp only[iq,ae] at h;cases t with
  |zero=>simp at ht;subst ht;exact h.1
  |succ t=>have:=nU h.2 t i (by simpa using ht);rw[show k+(t+1)=Nat.succ k+t by omega];exact this
theorem tL:∀ {l:List Func},oS l=true->∀ f,f∈l->tK f=true
 |[],_,x,h=>by simp at h
 |v :: l,h,x,hx=>by
  simp only[oS,ae] at h;rcases aq.1 hx with rfl|hx
  .exact h.1
  .exact tL h.2 x hx
theorem zw:∀ {l:List TypeId},zu P l=true->∀ t,t∈l->P.eqGuardType P.depth t=false/\P.stoodInHeld t=false
 |[],_,x,h=>by simp at h
 |v :: l,h,x,hx=>by
  simp only[zu,ae,bw] at h;rcases aq.1 hx with rfl|hx
  .exact h.1
  .exact zw h.2 x hx
theorem tM {t:TypeId}{i:TypeInfo}(h:P.types[t]?=some i):P.info? t=some i:=by unfold Tables.info?;rw[if_pos (aD.1 h).1];exact h
theorem H9 (f:FuncId):(mkG P eqs rows ext).funcs.get f=P.funcs[f]?:=by show(T.ofList some P.funcs.size P.funcs.toList).get f=_;rw[T.kA _ _ _ _ (by simp)];simp
theorem Qy (t:TypeId):(mkG P eqs rows ext).ty t=(P.types[t]?).bind (Q6 (T.ofList some P.types.size P.types.toList)):=by show(T.ofList _ P.types.size P.types.toList).get t=_;rw[T.kA _ _ _ _ (by simp)];simp
theorem xd {t:TypeId}{ty:TY}(h:(mkG P eqs rows ext).ty t=some ty):yC P t ty/\∃ i,P.types[t]?=some i/\ty.size=i.size:=by
 rw[Qy] at h;obtain⟨i,ht,h⟩:=Option.bind_eq_some_iff.1 h
 .have hu:∀ u,(T.ofList some P.types.size P.types.toList).get u=P.types[u]?:=fun u=>by
   rw[T.kA _ _ _ _ (by simp)];simp
  have h:Q6 (T.ofList some P.types.size P.types.toList) i=some ty:=h;have go:∀ d,P.underlying t=some d->ty=⟨d,i.size,(match d with|.struct _=>true|.array _ _=>true|_=>false),(match i.zero with|some z=>ofValue z|none=>none),i.methods⟩->yC P t ty/\∃ i,P.types[t]?=some i/\ty.size=i.size:=by
   intro d hd e;subst e;refine⟨⟨hd,⟨i,tM ht,rfl,rfl,fun z hz=>?_⟩,rfl⟩,i,ht,rfl⟩;simp only at hz;split at hz;·rename_i c hc;exact⟨c,hc,fun Y=>tP hz⟩
   .cases hz
  unfold Q6 at h;simp only at h;split at h
  .rename_i u hd;split at h
   .rename_i j hj;rw[hu] at hj;cases h;refine go _ ?_ rfl;have ht':P.info? t=some i:=tM ht;have hj':=tM hj;unfold Program.underlying;rw[ht'];split;·rename_i i' a u' he;cases he;cases hd;rw[hj'];rfl
    .rename_i i' hne he;cases he;obtain⟨d1,d2,d3,d4,d5,d6,d7,d8,d9,d10⟩:=i;simp only at hd;subst hd;exact(hne _ _ _ _ _ _ _ _ _ _ _ rfl).elim
    .rename_i he;cases he
   .cases h
  .cases h
  .rename_i d hne _;cases h;refine go _ ?_ rfl;have ht':P.info? t=some i:=tM ht;unfold Program.underlying;rw[ht'];split;·rename_i i' a u he;cases he;exact absurd rfl (hne _ _)
   .rename_i i' hne' he;cases he;rfl
   .rename_i he;cases he
theorem qD {ext':FuncId->List V->H->Option (V×H)}:∀ {l:List TypeInfo} {k:Nat},iq (mkG P eqs rows ext) l k=iq (mkG P eqs rows ext') l k
 |[],_=>rfl
 |i :: l,k=>by
  have h0:iq (mkG P eqs rows ext) l (Nat.succ k)=iq (mkG P eqs rows ext') l (Nat.succ k):=qD;simp only[iq];have h1:nQ (mkG P eqs rows ext) k i=nQ (mkG P eqs rows ext') k i:=by
   have hty:∀ t,(mkG P eqs rows ext).ty t=(mkG P eqs rows ext').ty t:=fun _=>rfl;have hf:∀ s (l:List Field),jx (mkG P eqs rows ext) s l=jx (mkG P eqs rows ext') s l:=fun s l=>by
    induction l with
    |nil=>rfl
    |cons f l ih=>have h2:oR (mkG P eqs rows ext) s f=oR (mkG P eqs rows ext') s f:=rfl;simp only[jx,ih,h2]
   unfold nQ;rw[hty];simp only[hf]
  rw[h1,h0]
theorem Qz (hf:oS P.funcs.toList=true)(ht':iq (mkG P eqs rows fun _ _ _=>none) P.types.toList 0=true)(he:zu P eqs=true)
  (hr:∀ r,r∈rows->∃ fn,P.funcs[r.1]?=some fn/\fn.name ≠ "runtime.NumGoroutine"/\fn.body=none/\Extern.findNext fn=none/\Extern.find fn=some (zF r.2)) (hm:P.follows .mixedOrders=true):
  GOk P (mkG P eqs rows ext)/\pH (mkG P eqs rows ext):=by
 have ht:iq (mkG P eqs rows ext) P.types.toList 0=true:=qD.trans ht';have hfn:∀ f fn,(mkG P eqs rows ext).funcs.get f=some fn->P.funcs[f]?=some fn/\tK fn=true:=fun f fn h=>by rw[H9] at h;exact⟨h,tL hf fn (by simpa using dg h)⟩
 refine⟨⟨fun f fn h=>?_,fun t ty h=>(xd h).1,fun t h=>?_,fun f r h=>?_,fun t ty fs h hd f hfs=>?_,fun t ty h=>?_,hm⟩,fun f fn c h hb=>?_⟩;·obtain⟨a,b⟩:=hfn f fn h;simp only[tK,ae,bw] at b;exact⟨a,fun q=>by have:=b.1;rw[q] at this;simp at this⟩
 .exact zw he t (by simpa [mkG] using h)
 .simp only[mkG] at h;split at h;·rename_i r' hr';cases h;have h1:=eC hr';have h2:=di hr';rw[T.beq_true] at h1;subst h1;exact hr r' h2
  .cases h
 .obtain⟨i,hi,hs⟩:=(xd h).2;have:=nU ht t i (by simpa using hi);rw[aI] at this;simp only[nQ,h,hd,ae] at this;have:=qC this.2 f hfs;simp only[oR] at this;split at this
  .rename_i ft hft;simp only[ae,bf] at this;refine⟨ft,hft,az this.1,fun q=>?_⟩;rcases this.2 with a|a
   .rw[q] at a;cases a
   .exact gk a
  .cases this
 .obtain⟨i,hi,hs⟩:=(xd h).2;have:=nU ht t i (by simpa using hi);rw[aI] at this;simp only[nQ,h,ae] at this;obtain⟨⟨h1,h2⟩,_⟩:=this;split at h2;·rename_i z hz;simp only[ae] at h2;exact⟨i,z,tM hi,az h1,hz,(T.beq_true).1 h2.1,H8 h2.2⟩
  .cases h2
 .obtain⟨a,b⟩:=hfn f fn h;simp only[tK,ae,hb] at b;exact b.2
end
end Go.Ev
namespace Go.Ev
open Go.RowKit
section
variable {P:Program}{G:Γ}
theorem Es {Y:Ren}{h:H}{w w':World}(hS:Sim Y h w)(hb:Below w.heap.size w w'):Sim Y h w'/\Ext Y h w Y h w':=
 ⟨⟨hS.glob,hS.dom,fun b o hbo=>let ⟨L,c,l1,l2,l3⟩:=hS.live b o hbo;⟨L,c,l1,by rw[hb.block _ (hS.lt hbo l1)];exact l2,l3⟩,hS.inj,fun b o B hbo hB=>bh (hS.ownlt b o B hbo hB) hb.size,
   fun b os L hbo hL=>(hS.gho b os L hbo hL).frame fun B hB=>hb.block B (hS.ownlt b _ B hbo hB)⟩,
  ⟨aF _,fun _ _=>rfl,fun _ _ q=>q,hb.size,fun B hB _=>hb.block B hB,fun b o B x y _=>⟨b,o,x,y,fun q=>q⟩,hb.tape,hb.os,hb.output⟩⟩
end
end Go.Ev
namespace Go.Ev
section
variable {P:Program}{G:Γ}
theorem tF (hG:GOk P G){call:ic}(hcall:pT P call){F:Fence}(hF:xu F){k:Nat}{ops:Array Oper}{Q:Exit->Act->World->Prop}{m:Nat}:
  ∀ (seg:List Oper) (i:Nat),(∀ j o,seg[j]?=some o->ops[i+j]?=some o)->∀ (Y:Ren) (env env':Env) (h h':H) (a:Act) (w:World),xn G call ops seg env h=some (env',h')->Sim Y h w->iU Y env a.tmps ->
   (∀ Y' a' w',Sim Y' h' w'->Ext Y h w Y' h' w'->iU Y' env' a'.tmps->a'.defers=a.defers->wpOpsIn F k P ops Q (List.range' (i+seg.length) m) a' w')->wpOpsIn F k P ops Q (List.range' i (seg.length+m)) a w
 |[],i,_,Y,env,env',h,h',a,w,hr,hS,he,hQ=>by simp only[xn] at hr;cases hr;have:=hQ Y a w hS (Ext.refl _ _ _) he rfl;simpa using this
 |o :: rest,i,hi,Y,env,env',h,h',a,w,hr,hS,he,hQ=>by
  have hoi:ops[i]?=some o:=hi 0 o rfl;have hi':∀ j o',rest[j]?=some o'->ops[i+1+j]?=some o':=fun j o' h=>by have:=hi (j+1) o' (by simpa using h);rw[show i+1+j=i+(j+1) by omega];exact this
  have hlen:(o :: rest).length+m=(rest.length+m)+1:=by simp only[aU];omega
  rw[hlen,eu];simp only[wpOpsIn,hoi];have hQ':∀ Y' a' w',Sim Y' h' w'->Ext Y h w Y' h' w'->iU Y' env' a'.tmps->a'.defers=a.defers->wpOpsIn F k P ops Q (List.range' (i+1+rest.length) m) a' w':=fun Y' a' w' q1 q2 q3 q4=>by have:=hQ Y' a' w' q1 q2 q3 q4;rw[show i+1+rest.length=i+(o :: rest).length by simp only[aU];omega];exact this
  simp only[xn] at hr;split at hr
  .rename_i hw;rw[gF he hw,if_pos rfl];split at hr
   .rename_i v h1 hst;split at hr;·rename_i env1 hput;refine⟨fun f _=>hF.fn f,(oU hG hcall hst hS he F.round).upon hF fun c w1 hp=>?_⟩;obtain⟨Y1,p1,p2,p3⟩:=hp;have hle:=p2.le hS;refine tF hG hcall hF rest (i+1) hi' Y1 env1 env' h1 h' _ w1 hr p1 (kZ (he.mono hle) hput p3) fun Y' a' w' q1 q2 q3 q4=>hQ' Y' a' w' q1 (p2.trans q2) q3 ?_;rw[q4];cases o.dst<;>rfl
    .cases hr
   .cases hr
  .rename_i hw;rw[gF he hw];simp only[aW,if_false];split at hr;·rename_i env1 hput;refine⟨fun f _=>hF.fn f,?_⟩;refine tF hG hcall hF rest (i+1) hi' Y env1 env' h h' _ w hr hS (kZ he hput .undef) fun Y' a' w' q1 q2 q3 q4=>hQ' Y' a' w' q1 q2 q3 ?_;rw[q4];cases o.dst<;>rfl
   .cases hr
  .cases hr
theorem jN {F:Fence}{k id:Nat}{ops:Array Oper}{Q:Exit->Act->World->Prop}{a:Act}{w:World}(h:wpOpsIn F k P ops Q (List.range' 0 ops.size) a w):(Code.region id ops false).wpIn F k P Q a w:=
 wpIn_region (by rw[List.range_eq_range'];exact h)
theorem pS {F:Fence}{k:Nat}{Q:Exit->Act->World->Prop}{Y:Ren}{env:Env}{a:Act}{w:World}{c:Operand}{x y:Code}{b:Bool}(hg:ND Y)(he:iU Y env a.tmps)(hc:env.get c=some (.bool b))
  (h1:b=true->x.wpIn F k P Q a w)(h2:b=false->y.wpIn F k P Q a w):(Code.cond c x y).wpIn F k P Q a w:=by
 have:=jO hg he c _ hc;generalize hcc:a.eval c=cc at this;cases this;cases b;·exact wpIn_cond_false hcc (h2 rfl)
 .exact wpIn_cond_true hcc (h1 rfl)
end
end Go.Ev
namespace Go.Ev
open Go.RowKit
def At (Y0:Ren)(h0:H)(w0:World)(st:St)(a:Act)(w:World):Prop:=
 ∃ Y,Sim Y st.h w/\Ext Y0 h0 w0 Y st.h w/\iU Y st.env a.tmps/\yE Y st.defs a.defers
end Go.Ev

namespace Go.Ev
open Go.RowKit
noncomputable section
def HH:V->Bool
 |.bool _=>true
 |.int _ _=>true
 |.str _=>true
 |.nilp=>true
 |.nils=>true
 |.nilm=>true
 |.nilf=>true
 |.nili=>true
 |_=>false
def Nz:V->Bool
 |.agg n pat .leaf=>Nat.beq n pat.length&&pat.all HH
 |v=>HH v
end
theorem tD {v:V}(hp:HH v=true){Y Y':Ren}{c:Value}(h:Rel Y v c):Rel Y' v c:=by
 cases h<;>first
  |(simp[HH] at hp;done)
  |constructor
theorem HI {v:V}(hp:Nz v=true){Y Y':Ren}{c:Value}(h:Rel Y v c):Rel Y' v c:=by
 unfold Nz at hp;split at hp
 .simp only[ae,T.beq_true,bz] at hp;cases h with
  |agg h1 h2 h3=>refine .agg h1 h2 fun i v x hv hx=>?_;refine tD (hp.2 v ?_) (h3 i v x hv hx);have:=lQ _ i v (by rw[<- hp.1];exact hv);exact aC this
 .exact tD hp h
end Go.Ev
namespace Go.Ev
variable {a b:Int}
theorem P8 {a b:Nat}:Nat.blt a b=true↔a<b:=⟨az,aH⟩
theorem Td:ilt a b=true↔a<b:=by
 cases a with
 |ofNat a=>cases b with
  |ofNat b=>simp only[ilt,P8,aN];omega
  |negSucc b=>simp only[ilt,aN];exact⟨(fun h=>nomatch h),fun h=>by omega⟩
 |negSucc a=>cases b with
  |ofNat b=>simp only[ilt,aN];exact⟨fun _=>by omega,fun _=>trivial⟩
  |negSucc b=>simp only[ilt,P8];omega
theorem iT:ieq a b=true↔a=b:=by
 cases a with
 |ofNat a=>cases b with
  |ofNat b=>simp only[ieq,T.beq_true,aN];omega
  |negSucc b=>simp only[ieq,aN];exact⟨(fun h=>nomatch h),fun h=>by omega⟩
 |negSucc a=>cases b with
  |ofNat b=>simp only[ieq,aN];exact⟨(fun h=>nomatch h),fun h=>by omega⟩
  |negSucc b=>simp only[ieq,T.beq_true];omega
theorem P9:ieq a b=false↔a≠b:=by rw[<- Bool.not_eq_true,iT]
end Go.Ev

namespace Go.Ev
open Go.RowKit
theorem Bg {α:Type}(l:List α)(i:Nat):nth l i=l[i]?:=jb l i
theorem jE {n:Nat}{pat:List V}{i:Nat}{v:V}(h:cell n pat .leaf i=some v):i<n/\pat[i % pat.length]?=some v:=by
 have hi:=eT h;have hb:Nat.blt i n=true:=aH hi;simp only[cell,hb,T.eR,yH,Bg] at h;refine⟨hi,?_⟩;split at h;·rename_i x hx;cases h;have:=(ai.1 hx).1;rw[bS this];exact hx
 .exact h
theorem oM {L:List V}{i:Nat}{v:V}(h:cell L.length L .leaf i=some v):L[i]?=some v:=by obtain⟨hi,hv⟩:=jE h;rwa [bS hi] at hv
theorem J8 {Y:Ren}{h:H}{w w':World}(hS:Sim Y h w)(hb:Below w.heap.size w w'){o:O}{B z:Nat}{c:Obj}(hB:w.heap.size<=B)(hc:w'.heap[B]?=some c)(ho:jD (Y.with h.next (B,0,z)) o (B,0,z) c)(hg:o.isG=false):
  Sim (Y.with h.next (B,0,z)) (h.add o) w'/\Ext Y h w (Y.with h.next (B,0,z)) (h.add o) w':=by
 exact⟨hS.add (L:=(B,0,z)) hS.fresh (by simp) (by simp) (fun x=>H.add_get h _ x) hB hc ho (fun k hk=>hb.block k hk) hg,
  Ext.add (L:=(B,0,z)) (aF _) (by simp) (fun x=>H.add_get h _ x) hB hb.size (fun k hk=>hb.block k hk) hb.tape hb.os hb.output⟩
noncomputable section
def zx:List (V×V×Nat)->Option (List Int)
 |[]=>some []
 |e :: l=>match e.1 with
  |.int .i64 k=>match zx l with
   |some r=>some (k :: r)
   |none=>none
  |_=>none
def Rb (x:Int):List Int->List Int
 |[]=>[x]
 |y :: l=>match ilt x y with
  |true=>x :: y :: l
  |false=>y :: Rb x l
def nV:List Int->List Int
 |[]=>[]
 |x :: l=>Rb x (nV l)
def rising:List Int->Bool
 |[]=>true
 |x :: l=>match l with
  |[]=>true
  |y :: _=>ilt x y&&rising l
def Er:List Int->Bool
 |[]=>true
 |x :: l=>(match x with
  |.ofNat n=>Nat.blt n 9223372036854775808
  |.negSucc n=>Nat.blt n 9223372036854775808)&&Er l
def D1 (clock:Nat):Nat->List (V×V×Nat)->Bool
 |_,[]=>true
 |lo,e :: l=>Nat.ble lo e.2.2&&Nat.blt e.2.2 clock&&D1 clock (Nat.succ e.2.2) l
def tN (iS iK:FuncId)(e:TypeId)(f:FuncId)(args:List V)(h:H):Option (V×H):=
 match Nat.beq f iS,args with
 |true,[.func (.func g) [] [.ptr b 0]]=>match Nat.beq g iK,h.tr.get b with
  |true,some (.cells (some _) n pat tr)=>match cell n pat tr 0 with
   |some (.map r)=>match h.tr.get r with
    |some (.map es clock)=>match zx es with
     |some (k :: ks)=>match rising (nV (k :: ks))&&Er (k :: ks)&&D1 clock 0 es&&Nat.ble es.length 1000 with
      |true=>some (.slice h.next 0 (Nat.succ ks.length) (.atl (Nat.succ ks.length) 1),h.add (.cells (some e) (Nat.succ ks.length) ((nV (k :: ks)).map (.int .i64)) .leaf))
      |false=>none
     |_=>none
    |_=>none
   |_=>none
  |_,_=>none
 |_,_=>none
end
theorem NG {a b:Int}:ilt a b=true↔a<b:=Td
theorem zy (x:Int):∀ l,(Rb x l).Perm (x :: l)
 |[]=>.refl _
 |y :: l=>by
  unfold Rb;split;·exact .refl _
  .exact((zy x l).cons y).trans (.swap x y l)
theorem mJ:∀ l,(nV l).Perm l
 |[]=>.refl _
 |x :: l=>(zy x _).trans ((mJ l).cons x)
theorem tO:∀ {l:List Int},rising l=true->l.Pairwise (fun a b=>a<b)
 |[],_=>.nil
 |[x],_=>by simp
 |x :: y :: l,h=>by
  have h:(ilt x y&&rising (y :: l))=true:=h;simp only[ae,NG] at h;obtain⟨h1,h2⟩:=h;have ih:=tO h2;refine List.pairwise_cons.2 ⟨fun z hz=>?_,ih⟩;rcases aq.1 hz with rfl|hz
  .exact h1
  .have:=(List.pairwise_cons.1 ih).1 z hz;omega
theorem NH {ss ks:List Int}(h1:ss.Perm ks)(h2:rising (nV ks)=true):ss.mergeSort leI=nV ks:=by have hp:ss.Perm (nV ks):=h1.trans (mJ ks).symm;rw[mergeSort_of_perm_i hp];refine List.mergeSort_of_pairwise (le:=leI) ((tO h2).imp fun {a b} hab=>?_);simp only[leI,decide_eq_true_eq];omega
theorem Df:∀ {l:List Int},Er l=true->∀ x∈l,(Lit.int .i64 x).wf=true
 |y :: l,h,x,hx=>by
  simp only[Er,ae] at h;rcases aq.1 hx with rfl|hx
  .have m1:IntKind.i64.min = -9223372036854775808:=by decide
   have m2:IntKind.i64.max=9223372036854775807:=by decide
   simp only[Lit.wf,ae,decide_eq_true_eq,m1,m2];have h1:=h.1;cases x with
   |ofNat n=>
    have:n<9223372036854775808:=by simpa [cZ] using h1
    simp only[aN];omega
   |negSucc n=>
    have:n<9223372036854775808:=by simpa [cZ] using h1
    omega
  .exact Df h.2 x hx
theorem zA:∀ {es:List (V×V×Nat)} {ks:List Int},zx es=some ks->ks.length=es.length/\∀ (i:Nat) e,es[i]?=some e->∃ k,ks[i]?=some k/\e.1=.int .i64 k
 |[],ks,h=>by cases h;exact⟨rfl,fun i e h=>by simp at h⟩
 |e :: l,ks,h=>by
  simp only[zx] at h;split at h
  .rename_i k hk;split at h
   .rename_i r hr;cases h;obtain⟨l1,l2⟩:=zA hr;refine⟨by simp[l1],fun i e' he=>?_⟩;cases i with
    |zero=>simp at he;subst he;exact⟨k,rfl,hk⟩
    |succ i=>simp at he;obtain⟨k',q1,q2⟩:=l2 i e' he;exact⟨k',by simpa using q1,q2⟩
   .cases h
  .cases h
theorem Dg:∀ {es:List (V×V×Nat)} {clock lo:Nat},D1 clock lo es=true->(∀ (i:Nat) e,es[i]?=some e->lo<=e.2.2/\e.2.2<clock)/\(es.map (·.2.2)).Pairwise (· < ·)
 |[],_,_,_=>⟨fun i e h=>by simp at h,.nil⟩
 |e :: l,clock,lo,h=>by
  simp only[D1,ae] at h;obtain⟨⟨h1,h2⟩,h3⟩:=h;have h1:=az h1;have h2:e.2.2<clock:=by simpa [cZ] using h2
  obtain⟨i1,i2⟩:=Dg h3;refine⟨fun i e' he=>?_,?_⟩
  .cases i with
   |zero=>simp at he;subst he;exact⟨h1,h2⟩
   |succ i=>simp at he;have:=i1 i e' he;omega
  .rw[aS];refine List.pairwise_cons.2 ⟨fun x hx=>?_,i2⟩;obtain⟨e',he,rfl⟩:=aJ.1 hx;obtain⟨i,hi⟩:=bV he;have:=i1 i e' hi;omega
def kY (P:Program)(iS iK:FuncId)(e:TypeId):Prop:=∀ (Bm b nn:Nat) (D0:DataW Unit) (w:World),w.cell? ⟨Bm,0,none⟩=some (.map (some b))->w.ownsMap P e (fun _=>some (.nil,[])) b nn D0->Maps.size D0<=1000 ->
 Calls P iS #[.func (.func iK) #[] #[.pointer (some ⟨Bm,0,none⟩)]] w fun en w'=>∃ (v:Value) (ss:List Int),en=.returned v/\ss.Perm (intKeys D0)/\w'.ownsRow w.heap.size e 1 v ss.length ((ss.mergeSort (fun x y=>decide (x<=y))).map encZ)/\(v=.slice none 0 0↔ss=[])/\Below w.heap.size w w'
theorem vo {P:Program}{iS iK:FuncId}{e:TypeId}(hu:P.underlying e=some (.int .i64))(hs:kY P iS iK e){f:FuncId}{args:List V}{h:H}{v:V}{h':H}(hr:tN iS iK e f args h=some (v,h'))
  {Y:Ren}{cargs:Array Value}{w:World}(ha:fH Y args cargs.toList)(hS:Sim Y h w)(n:Nat):CallsIn Fence.wide n P f cargs w (Ret (Post Y h w v h')):=by
 unfold tN at hr;split at hr
 .rename_i g b q0;rw[T.beq_true] at q0;subst q0;split at hr
  .rename_i e0 n0 pat tr q1 hb;rw[T.beq_true] at q1;subst q1;split at hr
   .rename_i r hc;split at hr
    .rename_i es clock hm;split at hr
     .rename_i k ks hk;split at hr
      .rename_i q2;simp only[ae] at q2;obtain⟨⟨⟨p1,p2⟩,p3⟩,p4⟩:=q2;have p4:=az p4;cases hr;obtain⟨c,cs',e1,r1,e2⟩:=ha.zaa;have e2:=e2.of_nil;subst e2;have ec:cargs = #[c]:=by rw[<- aP (xs:=cargs),e1]
       subst ec;cases r1 with
       |func _ s1 s2 s3 s4=>
       rename_i fa ca;have fa0:fa = #[]:=Array.eq_empty_of_size_eq_zero (by simpa using s1);subst fa0;obtain⟨x,hx⟩:∃ x,ca = #[x]:=by
        obtain⟨l⟩:=ca;match l,s2 with
        |[x],_=>exact⟨x,rfl⟩
       subst hx;have rx:=s4 0 _ x rfl rfl;cases rx with
       |ptr hY=>
       rename_i B d z;obtain⟨L,c,l1,l2,l3⟩:=hS.live b _ hb;rw[hY] at l1;cases l1;obtain⟨cs,el,lo,hi,g1,g2,g3,g4,g5,g6⟩:=l3;obtain⟨_,d0⟩:=g5 e0 rfl;have d0:d=0:=d0;subst d0;subst g1;have g2:cs.size=z:=g2;have g3:0+n0<=z:=g3;have h0:=eT hc;have hcs:cs[0]?=some cs[0]:=bq (by omega);have rm:=g6.2 0 _ cs[0] hc (by simp);obtain⟨Mm,hM⟩:∃ Mm dm zm,Y r=some (Mm,dm,zm)/\cs[0]=.map (some Mm):=by
        generalize cs[0]=y at rm;cases rm with
        |map hq=>exact⟨_,_,_,hq,rfl⟩
       obtain⟨dm,zm,hM,hc0⟩:=hM;obtain⟨L2,c2,m1,m2,m3⟩:=hS.live r _ hm;rw[hM] at m1;cases m1;obtain⟨es',t1,t2,t3⟩:=m3;subst t1;obtain⟨k1,k2⟩:=zA hk;obtain⟨u1,u2⟩:=Dg p3;have ent:∀ (i:Nat) x,es'[i]?=some x->∃ a k',es[i]?=some a/\(k :: ks)[i]?=some k'/\x.key=.int .i64 k'/\x.born=a.2.2:=fun i x hx=>by have hi:=(aD.1 hx).1;have ha:es[i]?=some (es[i]'(by omega)):=ah (by omega);obtain⟨r1,r2,r3⟩:=t3 i _ x ha hx;obtain⟨k',q1,q2⟩:=k2 i _ ha;rw[q2] at r1;exact⟨_,k',ha,q1,by generalize x.key=y at r1;cases r1;rfl,r3⟩
       have hkeys:es'.toList.map (·.key)=(k :: ks).map (Value.int .i64):=by
        refine cV fun i=>?_;rw[aL,aL,aM];cases hx:es'[i]? with
        |none=>have:=Array.getElem?_eq_none_iff.1 hx;rw[dc (by omega)];rfl
        |some x=>obtain⟨a,k',_,q2,q3,_⟩:=ent i x hx;rw[q2];simp[q3]
       have hborn:es'.toList.map (·.born)=es.map (·.2.2):=by
        refine cV fun i=>?_;rw[aL,aL,aM];cases hx:es'[i]? with
        |none=>have:=Array.getElem?_eq_none_iff.1 hx;rw[dc (by omega)];rfl
        |some x=>obtain⟨a,k',q1,_,_,q4⟩:=ent i x hx;rw[q1];simp[q4]
       have wf:=Df p2;have hnd:(k :: ks).Nodup:=by
        have:(nV (k :: ks)).Nodup:=(tO p1).imp fun {a b} hab=>by omega
        exact(mJ _).nodup_iff.1 this
       have reads:∀ x∈es'.toList,∃ k',k'∈k :: ks/\x.key=.int .i64 k'/\WideElems.rd (H:=Unit) P e (fun _=>some (.nil,[])) x=some (.int .i64 k',.nil):=fun x hx=>by obtain⟨i,hi⟩:=bV hx;rw[aM] at hi;obtain⟨a,k',_,q2,q3,_⟩:=ent i x hi;have hk':=aC q2;have w1:=wf k' hk';refine⟨k',hk',q3,?_⟩;unfold WideElems.rd keyOf mapKey;simp only[hu,q3,w1];rfl
       have fit:WideElems.Fit P e (fun _=>some ((.nil:DataW Unit),[])) es' clock:=by
        refine⟨?_,⟨fun x hx=>?_,?_,?_⟩,fun x hx=>?_⟩
        .have:maxLen=9223372036854775807:=by decide
         omega
        .obtain⟨i,hi⟩:=bV hx;rw[aM] at hi;obtain⟨a,k',q1,_,_,q4⟩:=ent i x hi;rw[q4];exact(u1 i a q1).2
        .rw[hborn];exact u2.imp fun {a b} hab=>by omega
        .rw[hkeys];exact List.pairwise_map.2 (hnd.imp fun {a b} hab q=>hab (by cases q;rfl))
        .obtain⟨k',_,_,q⟩:=reads x hx;exact⟨_,q⟩
       have hD:intKeys (.map ((es'.toList.map (WideElems.rg P e (fun _=>some ((.nil:DataW Unit),[])))).foldr DataW.insert [])) |>.Perm (k :: ks):=by
        have s1:=(WideShapes.sorted_perm (es'.toList.map (WideElems.rg P e (fun _=>some ((.nil:DataW Unit),[]))))).map fun p=>intOf p.1;refine s1.trans ?_;have:((es'.toList.map (WideElems.rg P e (fun _=>some ((.nil:DataW Unit),[])))).map fun p=>intOf p.1)=k :: ks:=by
         have h1:((es'.toList.map (·.key)).map fun v:Value=>match v with|.int _ a=>a|_=>0)=k :: ks:=by rw[hkeys,dr];simp[Function.comp_def]
         rw[<- h1,dr,dr];refine List.map_congr_left fun x hx=>?_;obtain⟨k',_,q3,q⟩:=reads x hx;simp only[Function.comp_def,WideElems.rg,q,Option.getD_some,intOf,q3]
        rw[this]
       have own:w.ownsMap P e (fun _=>some ((.nil:DataW Unit),[])) Mm es'.size (.map ((es'.toList.map (WideElems.rg P e (fun _=>some ((.nil:DataW Unit),[])))).foldr DataW.insert [])):=⟨es',clock,m2,fit,aF _,rfl⟩;have hcell:w.cell? ⟨B,0,none⟩=some (.map (some Mm)):=by unfold World.cell?;rw[l2];show cs[0]?=_;rw[hcs,hc0]
       refine(callsIn_wide.2 (hs B Mm _ _ w hcell own (bF own.size_le (by omega)))).mono fun en w' ⟨v,ss,x1,x2,x3,x4,x5⟩=>?_;subst x1;have hss:ss.Perm (k :: ks):=x2.trans hD;have hl:ss.length=ks.length+1:=by rw[hss.length_eq];rfl
       have hsrt:=NH hss p1;have hsrt':ss.mergeSort (fun x y=>decide (x<=y))=nV (k :: ks):=hsrt;rw[hsrt',hl] at x3;obtain⟨_,x3⟩:=x3;rcases x3 with⟨_,z0⟩|⟨gb,cap,cur,rfl,y1,y2,y3,y4,y5,y6⟩
       .omega
       .have hsl:(nV (k :: ks)).length=ks.length+1:=by rw[(mJ _).length_eq];rfl
        have y5:cur.size=cap:=by rw[y5,eA]
        rw[eA] at y6;have hcur:∀ (i:Nat) x,i<ks.length+1->cur[i]?=some x->∃ k',(nV (k :: ks))[i]?=some k'/\x=.int .i64 k':=fun i x hi hx=>by
         have:(cur.toList.take (ks.length+1))[i]?=some x:=by rw[List.getElem?_take_of_lt hi,aM];exact hx
         rw[y6,aL,cH] at this;obtain⟨k',q1,q2⟩:=this;exact⟨k',q1,q2.symm⟩
        have ho:jD (Y.with h.next (gb,0,cap)) (.cells (some e) (Nat.succ ks.length) ((nV (k :: ks)).map (.int .i64)) .leaf) (gb,0,cap) (.cells cur e (0,0)):=by
         refine⟨cur,e,0,0,rfl,y5,by show 0+(ks.length+1)<=cap;omega,fun i _=>by omega,fun e' q=>by cases q;exact⟨rfl,rfl⟩,fun i x hi hx=>?_,fun i v x hv hx=>?_⟩;·rw[aI] at hx;obtain⟨k',_,rfl⟩:=hcur i x hi hx;rfl
         .rw[aI] at hx;have hi:=eT hv;obtain⟨k',q1,rfl⟩:=hcur i x hi hx;have hlen:(Nat.succ ks.length)=((nV (k :: ks)).map (V.int .i64)).length:=by rw[cM,hsl]
          rw[hlen] at hv;have:=lQ _ i v hv;rw[aL,q1] at this;cases this;exact .int _ _
        obtain⟨z1,z2⟩:=J8 hS x5 y1 y2 ho rfl;exact⟨_,rfl,_,z1,z2,.sliceA (B:=gb) (d:=0) (z:=cap) (Ren.fF _ _ _) y3 (by omega)⟩
      .cases hr
     .cases hr
    .cases hr
   .cases hr
  .cases hr
 .cases hr
noncomputable def QA (x y:FuncId->List V->H->Option (V×H))(f:FuncId)(args:List V)(h:H):Option (V×H):=
 match x f args h with
 |some r=>some r
 |none=>y f args h
theorem Ia {P:Program}{eqs:List TypeId}{rows:List (FuncId×Row)}{x y:FuncId->List V->H->Option (V×H)}(hx:pG P (mkG P eqs rows x))(hy:pG P (mkG P eqs rows y)):pG P (mkG P eqs rows (QA x y)):=by
 intro f args h v h' hr;have hr:QA x y f args h=some (v,h'):=hr;unfold QA at hr;split at hr;·rename_i q;cases hr;exact hx f args h v h' q
 .exact hy f args h v h' hr
structure Qo (h h2 h2' h':H):Prop where
 next2:h2.next=h.next
 part:∀ b o,h2.tr.get b=some o->h.tr.get b=some o
 next:h'.next=h2'.next
 get:∀ b o,h'.tr.get b=some o->h2'.tr.get b=some o\/(b<h.next/\h2.tr.get b=none/\h.tr.get b=some o)
theorem uW {Y Y':Ren}{h h2 h2' h':H}{w w':World}(F:Qo h h2 h2' h')(hS:Sim Y h w)(hS':Sim Y' h2' w')(hEe:Ext Y h2 w Y' h2' w'):∃ Y2:Ren,Y2.loc=Y'.loc/\Sim Y2 h' w'/\Ext Y h w Y2 h' w':=by
 obtain⟨Y2,f0,f1,f2,_⟩:=H7 (h2':=h') hS F.next2 F.part hS' hEe F.next fun b o hb=>by
  rcases F.get b o hb with q|⟨_,q2,q3⟩;·exact .inr ⟨o,q,rfl,fun _ _=>rfl,fun _ _ _ h=>h⟩
  .exact .inl ⟨q2,q3⟩
 exact⟨Y2,f0,f1,f2⟩
theorem C4:∀ (n:Nat) (os:List O) (x:Nat),(Qe n os).get x=if n<=x then os[x - n]? else none
 |n,[],x=>by simp[Qe,T.eR]
 |n,o :: os,x=>by
  simp only[Qe,T.eL,C4 (Nat.succ n) os x];by_cases e:x=n;·subst e;simp
  .rw[if_neg e];by_cases q:n<=x;·rw[if_pos q,if_pos (show Nat.succ n<=x by omega)];rw[show x - n=(x - Nat.succ n)+1 by omega];rfl
   .rw[if_neg q,if_neg (show ¬ Nat.succ n<=x by omega)]
theorem kS (os:List O)(x:Nat):(pK os).tr.get x=if 1001<=x then os[x - 1001]? else none:=C4 1001 os x
theorem lY (os:List O):(pK os).next=1001+os.length:=rfl
theorem Nx {os:List O}{x:Nat}{o:O}(h:(pK os).tr.get x=some o):1001<=x/\x<(pK os).next:=by
 rw[kS] at h;split at h;·have:=(ai.1 h).1;rw[lY];omega
 .cases h
structure Qp (Y:Ren)(h:H)(w:World)(Y':Ren)(h':H)(w':World):Prop where
 size:w.heap.size<=w'.heap.size
 frame:∀ B,B<w.heap.size->(∀ b o,h.tr.get b=some o->o.rw=true->¬ Y.fp b B)->w'.heap[B]?=w.heap[B]?
 origin:∀ b o B,h'.tr.get b=some o->Y'.fp b B->B<w.heap.size->∃ b0 o0,h.tr.get b0=some o0/\Y.fp b0 B/\(o.rw=true->o0.rw=true)
 tape:w'.tape=w.tape
 os:w'.os=w.os
 output:w'.output=w.output
theorem Ext.zero {Y Y':Ren}{h h':H}{w w':World}(e:Ext Y h w Y' h' w'):Qp Y h w Y' h' w':=⟨e.size,e.frame,e.origin,e.tape,e.os,e.output⟩
structure LF (o:O):Prop where
 at':∀ Y Y' L c,jD Y o L c->jD Y' o L c
theorem LF.ghost (os:List O):LF (.ghost os):=⟨fun _ _ _ _ _=>trivial⟩
def Qq (os:List O):Prop:=∀ x o,(pK os).tr.get x=some o->∀ (Y Y':Ren) L c,(∀ y,1001<=y->y<(pK os).next->Y' y=Y y)->jD Y o L c->jD Y' o L c
structure Whole (os:List O):Prop where
 closed:Qq os
 rw:∀ o,o∈os->o.rw=true
 root:os≠[]
 few:os.length<800000
theorem Whole.nc {os:List O}(h:Whole os):qB os=false:=by
 cases os with
 |nil=>rfl
 |cons o l=>have:=h.rw o (by simp);cases o<;>first|rfl|cases this
def RV (f:Nat->Option Nat)(v v':V):Prop:=∀ Y Y':Ren,(∀ x y,f x=some y->Y' x=Y y)->∀ c,Rel Y v' c->Rel Y' v c
structure RO (f:Nat->Option Nat)(o o':O):Prop where
 rw:o.rw=true->o'.rw=true
 gh:∀ os,o=.ghost os->o'=o
 rel:∀ Y Y':Ren,(∀ x y,f x=some y->Y' x=Y y)->∀ L c,jD Y o' L c->jD Y' o L c
theorem RO.lf {f:Nat->Option Nat}{o:O}(h:LF o):RO f o o:=⟨id,fun _ _=>rfl,fun _ _ _ _ _ ho=>h.at' _ _ _ _ ho⟩
theorem Ny {Y:Ren}{h h':H}{w:World}(hS:Sim Y h w)(f:Nat->Option Nat)(hg:∀ g,g<1000->f g=some g)(hdom:∀ x y,f x=some y->x<h'.next)(hinj:∀ x x' y o o',h'.tr.get x=some o->h'.tr.get x'=some o'->f x=some y->f x'=some y->x=x')
  (hh:∀ x o,h'.tr.get x=some o->∃ y o',f x=some y/\h.tr.get y=some o'/\RO f o o'):
  ∃ Y',Sim Y' h' w/\(∀ x y,f x=some y->Y' x=Y y)/\(∀ x y,f x=some y->Y'.fp x=Y.fp y)/\∀ {Y0:Ren} {h0:H} {w0:World},Qp Y0 h0 w0 Y h w->Qp Y0 h0 w0 Y' h' w:=by
 let Y':Ren:=⟨fun b=>match f b with
  |some b'=>Y b'
  |none=>none,fun b B=>∃ b',f b=some b'/\Y.own b' B⟩
 have hY:∀ b b',f b=some b'->Y' b=Y b':=fun b b' q=>by simp only[Y',q]
 have hown:∀ b b',f b=some b'->Y'.own b=Y.own b':=fun b b' q=>by funext B;refine propext ⟨fun⟨b2,q1,q2⟩=>?_,fun q1=>⟨b',q,q1⟩⟩;rw[q] at q1;cases q1;exact q2
 have hfp:∀ b b',f b=some b'->Y'.fp b=Y.fp b':=fun b b' q=>Ren.zq (hY b b' q) (hown b b' q);refine⟨Y',⟨fun g hg'=>?_,fun b L hb=>?_,fun b o hb=>?_,fun b b2 o o2 B hb hb2 hq hL hL2=>?_,fun b o B hb hB=>?_,fun b os L hb hL=>?_⟩,hY,hfp,fun {Y0 h0 w0} e=>⟨e.size,e.frame,fun b o B hb hf hlt=>?_,e.tape,e.os,e.output⟩⟩;·obtain⟨z,hz⟩:=hS.glob g hg';exact⟨z,by rw[hY g g (hg g hg')];exact hz⟩
 .simp only[Y'] at hb;split at hb;·rename_i b' q;exact hdom b b' q
  .cases hb
 .obtain⟨b',o',p1,p2,_,_,p4⟩:=hh b o hb;obtain⟨L,c,l1,l2,l3⟩:=hS.live b' o' p2;exact⟨L,c,by rw[hY b b' p1];exact l1,l2,p4 Y Y' hY L c l3⟩
 .obtain⟨b',o',p1,p2,p3,_⟩:=hh b o hb;obtain⟨b2',o2',q1,q2,q3,_⟩:=hh b2 o2 hb2;rw[hfp b b' p1] at hL;rw[hfp b2 b2' q1] at hL2;have:=hS.inj b' b2' o' o2' B p2 q2 (hq.imp p3 q3) hL hL2;subst this;exact hinj b b2 b' o o2 hb hb2 p1 q1
 .obtain⟨b',o',p1,p2,_⟩:=hh b o hb;rw[hown b b' p1] at hB;exact hS.ownlt b' o' B p2 hB
 .obtain⟨b',o',p1,p2,_,p3,_⟩:=hh b _ hb;rw[hown b b' p1];rw[hY b b' p1] at hL;rw[p3 os rfl] at p2;exact hS.gho b' os L p2 hL
 .obtain⟨b',o',p1,p2,p3,_⟩:=hh b o hb;rw[hfp b b' p1] at hf;obtain⟨b1,o1,x1,x2,x4⟩:=e.origin b' o' B p2 hf hlt;exact⟨b1,o1,x1,x2,fun q=>x4 (p3 q)⟩
theorem JT {Y:Ren}{h h':H}{w:World}(hS:Sim Y h w){os:List O}(f:Nat->Option Nat){r:Nat}(hr:f 1001=some r)(hw:Whole os)
  (hinj:∀ x x' y,f x=some y->f x'=some y->x=x')(hh:∀ x o,(pK os).tr.get x=some o->∃ y o',f x=some y/\h.tr.get y=some o'/\RO f o o')(hf:∀ x y,f x=some y->1001<=x/\x<(pK os).next)
  (hn:h.next=h'.next)(hgr:h'.tr.get r=some (.ghost os))(hget:∀ y o,h'.tr.get y=some o->y≠r->h.tr.get y=some o/\∀ x,f x≠some y):
  ∃ Y',Y'.loc=Y.loc/\Sim Y' h' w/\∀ {Y0:Ren} {h0:H} {w0:World},Qp Y0 h0 w0 Y h w->Qp Y0 h0 w0 Y' h' w:=by
 classical
 obtain⟨or,hor⟩:∃ o,(pK os).tr.get 1001=some o:=by
  rw[kS,if_pos (by omega),cJ];cases q:os with
  |nil=>exact absurd q hw.root
  |cons o l=>exact⟨o,rfl⟩
 obtain⟨r',or',e1,e2,e3⟩:=hh 1001 or hor;rw[hr] at e1;cases e1;obtain⟨L,c,hL,hc,_⟩:=hS.live r or' e2;let own:Nat->Prop:=fun B=>∃ x y o,f x=some y/\(pK os).tr.get x=some o/\Y.fp y B;let Y':Ren:=⟨Y.loc,fun b B=>if b=r then own B else Y.own b B⟩;have lo:∀ b,Y' b=Y b:=fun _=>rfl;have or_:Y'.own r=own:=by funext B;show ite _ _ _=_;rw[if_pos rfl]
 have on:∀ b,b≠r->Y'.own b=Y.own b:=fun b hb=>by funext B;show ite _ _ _=_;rw[if_neg hb]
 have fn:∀ b,b≠r->Y'.fp b=Y.fp b:=fun b hb=>Ren.zq rfl (on b hb);have fr:∀ B,Y'.fp r B->own B:=fun B hB=>by
  rcases hB with⟨L',h1,h2⟩|hB;·exact⟨1001,r,or,hr,hor,.inl ⟨L',h1,h2⟩⟩
  .rw[or_] at hB;exact hB
 have oh:∀ B,own B->∃ x y o o',f x=some y/\(pK os).tr.get x=some o/\h.tr.get y=some o'/\o.rw=true/\o'.rw=true/\Y.fp y B:=fun B ⟨x,y,o,h1,h2,h3⟩=>by
  obtain⟨y',o',k1,k2,k3,_⟩:=hh x o h2;rw[h1] at k1;cases k1;have hm:o∈os:=by
   rw[kS] at h2;split at h2;·exact aC h2
   .cases h2
  exact⟨x,y,o,o',h1,h2,k2,hw.rw o hm,k3 (hw.rw o hm),h3⟩
 have sep:∀ B y o,own B->h.tr.get y=some o->(∀ x,f x≠some y)->Y.fp y B->False:=fun B y o hB hy hno hf'=>by obtain⟨x,y',o1,o2,k1,_,k3,_,k4,k5⟩:=oh B hB;have:=hS.inj y y' o o2 B hy k3 (.inr k4) hf' k5;subst this;exact hno x k1
 refine⟨Y',rfl,⟨hS.glob,fun b L hb=>by rw[<- hn];exact hS.dom b L hb,fun b o hb=>?_,fun b b2 o o2 B hb hb2 hq hf1 hf2=>?_,fun b o B hb hB=>?_,fun b os' Lb hb hLb=>?_⟩,fun {Y0 h0 w0} e=>⟨e.size,e.frame,fun b o B hb hf1 hlt=>?_,e.tape,e.os,e.output⟩⟩
 .by_cases q:b=r;·subst q;rw[hgr] at hb;cases hb;exact⟨L,c,hL,hc,trivial⟩
  .obtain⟨L',c',l1,l2,l3⟩:=hS.live b o (hget b o hb q).1;exact⟨L',c',l1,l2,jD.loc (Y:=Y) (Y':=Y') rfl l3⟩
 .by_cases q:b=r<;>by_cases q2:b2=r;·rw[q,q2]
  .subst q;rw[fn b2 q2] at hf2;exact(sep B b2 o2 (fr B hf1) (hget b2 o2 hb2 q2).1 (hget b2 o2 hb2 q2).2 hf2).elim
  .subst q2;rw[fn b q] at hf1;exact(sep B b o (fr B hf2) (hget b o hb q).1 (hget b o hb q).2 hf1).elim
  .rw[fn b q] at hf1;rw[fn b2 q2] at hf2;exact hS.inj b b2 o o2 B (hget b o hb q).1 (hget b2 o2 hb2 q2).1 hq hf1 hf2
 .by_cases q:b=r;·subst q;rw[or_] at hB;obtain⟨x,y,o1,o2,_,_,k3,_,_,k5⟩:=oh B hB;exact hS.wY k3 k5
  .rw[on b q] at hB;exact hS.ownlt b o B (hget b o hb q).1 hB
 .by_cases q:b=r
  .subst q;rw[hgr] at hb;cases hb;have hLb:Y b=some Lb:=hLb;rw[hL] at hLb;cases hLb;rw[or_];let f':Nat->Option Nat:=fun x=>if x<1000 then some x else f x
   have ff:∀ x y,f x=some y->f' x=some y:=fun x y hx=>by have:=(hf x y hx).1;show ite _ _ _=_;rw[if_neg (by omega),hx]
   let Y0:Ren:=⟨fun x=>match f' x with
    |some y=>Y y
    |none=>none,fun x B=>∃ y,f' x=some y/\Y.own y B⟩
   have l0:∀ x y,f' x=some y->Y0 x=Y y:=fun x y q=>by simp only[Y0,q]
   have o0:∀ x y,f' x=some y->Y0.own x=Y.own y:=fun x y q=>by funext B;refine propext ⟨fun⟨b2,q1,q2⟩=>?_,fun q1=>⟨y,q,q1⟩⟩;rw[q] at q1;cases q1;exact q2
   have f0:∀ x y,f' x=some y->Y0.fp x=Y.fp y:=fun x y q=>Ren.zq (l0 x y q) (o0 x y q);refine .mk Y0 hw.nc (fun g hg=>?_) (fun x Lx hx=>?_) (fun x o hx=>?_) (fun x x' o o' B hx hx' hq hf1 hf2=>?_) (fun x o B hx hB=>?_) (by rw[l0 1001 b (ff _ _ hr)];exact hL) (fun B=>⟨?_,?_⟩) (fun x os2 Lx hx hLx=>?_);·rw[l0 g g (by show ite _ _ _=_;rw[if_pos hg])];exact hS.glob g hg
   .simp only[Y0] at hx;split at hx
    .rename_i y q;by_cases q2:x<1000;·rw[lY];omega
     .have q:(if x<1000 then some x else f x)=some y:=q;rw[if_neg q2] at q;exact(hf x y q).2
    .cases hx
   .obtain⟨y,o',p1,p2,_,_,p4⟩:=hh x o hx;obtain⟨Ly,cy,a1,a2,a3⟩:=hS.live y o' p2;exact⟨Ly,cy,by rw[l0 x y (ff _ _ p1)];exact a1,a2,p4 Y Y0 (fun x y q=>l0 x y (ff _ _ q)) _ _ a3⟩
   .obtain⟨y,oy,p1,p2,p3,_⟩:=hh x o hx;obtain⟨y',oy',p1',p2',p3',_⟩:=hh x' o' hx';rw[f0 x y (ff _ _ p1)] at hf1;rw[f0 x' y' (ff _ _ p1')] at hf2;have:=hS.inj y y' oy oy' B p2 p2' (hq.imp p3 p3') hf1 hf2;subst this;exact hinj x x' y p1 p1'
   .obtain⟨y,oy,p1,p2,_⟩:=hh x o hx;rw[o0 x y (ff _ _ p1)] at hB;exact hS.ownlt y oy B p2 hB
   .rintro⟨x,y,o,k1,k2,k3⟩;exact⟨x,o,k2,by rw[f0 x y (ff _ _ k1)];exact k3⟩
   .rintro⟨x,o,k1,k2⟩;obtain⟨y,oy,p1,p2,_⟩:=hh x o k1;exact⟨x,y,o,p1,k1,by rw[f0 x y (ff _ _ p1)] at k2;exact k2⟩
   .obtain⟨y,oy,p1,p2,_,p3,_⟩:=hh x _ hx;rw[p3 os2 rfl] at p2;rw[l0 x y (ff _ _ p1)] at hLx;rw[o0 x y (ff _ _ p1)];exact hS.gho y os2 Lx p2 hLx
  .rw[on b q];exact hS.gho b os' Lb (hget b _ hb q).1 hLb
 .by_cases q:b=r;·subst q;obtain⟨x,y,o1,o2,_,_,k3,_,k4,k5⟩:=oh B (fr B hf1);obtain⟨b1,o3,x1,x2,x3⟩:=e.origin y o2 B k3 k5 hlt;exact⟨b1,o3,x1,x2,fun _=>x3 k4⟩
  .rw[fn b q] at hf1;obtain⟨b1,o3,x1,x2,x3⟩:=e.origin b o B (hget b o hb q).1 hf1 hlt;exact⟨b1,o3,x1,x2,x3⟩
theorem RV.pure {f:Nat->Option Nat}{v:V}(h:Nz v=true):RV f v v:=fun _ _ _ _ hr=>HI h hr
theorem RV.ptr {f:Nat->Option Nat}{x y o:Nat}(h:f x=some y):RV f (.ptr x o) (.ptr y o):=fun Y Y' hY c hr=>by
 cases hr with
 |ptr hb=>exact .ptr (by rw[hY x y h];exact hb)
theorem RV.map {f:Nat->Option Nat}{x y:Nat}(h:f x=some y):RV f (.map x) (.map y):=fun Y Y' hY c hr=>by
 cases hr with
 |map hb=>exact .map (by rw[hY x y h];exact hb)
theorem RV.slice {f:Nat->Option Nat}{x y o n:Nat}{cap:Cap}(h:f x=some y):RV f (.slice x o n cap) (.slice y o n cap):=fun Y Y' hY c hr=>by
 cases hr with
 |sliceK hb=>exact .sliceK (by rw[hY x y h];exact hb)
 |sliceA hb h1 h2=>exact .sliceA (by rw[hY x y h];exact hb) h1 h2
 |sliceZ a=>exact .sliceZ a
theorem RO.cells {f:Nat->Option Nat}{e e':Option TypeId}{n:Nat}{pat pat':List V}{tr tr':T V}(he:∀ t,e=some t->e'=some t)(h:∀ i v,cell n pat tr i=some v->∃ v',cell n pat' tr' i=some v'/\RV f v v'):RO f (.cells e n pat tr) (.cells e' n pat' tr'):=by refine⟨fun _=>rfl,fun _ q=>(nomatch q),fun Y Y' hY L c ho=>?_⟩;obtain⟨cs,el,lo,hi,h1,h2,h3,h4,h5,h6⟩:=ho;refine⟨cs,el,lo,hi,h1,h2,h3,h4,fun t q=>h5 t (he t q),h6.1,fun i v x hv hx=>?_⟩;obtain⟨v',p1,p2⟩:=h i v hv;exact p2 Y Y' hY x (h6.2 i v' x p1 hx)
end Go.Ev


namespace Go.Ev
variable {Y:Ren}{h:H}
structure Wk (h' h:H):Prop where
 next:h'.next=h.next
 get:∀ x o,h'.tr.get x=some o->∃ o1,h.tr.get x=some o1/\o1.rw=o.rw/\(∀ os,o=.ghost os->o1=o)/\∀ Y L c,jD Y o1 L c->jD Y o L c
theorem Sim.wk {h':H}{w:World}(hS:Sim Y h w)(hk:Wk h' h):Sim Y h' w:=by
 refine⟨hS.glob,fun b L hb=>by rw[hk.next];exact hS.dom b L hb,fun b o hb=>?_,fun b b' o o' B hb hb' hq=>?_,fun b o B hb hB=>?_,fun b os L hb hL=>?_⟩;·obtain⟨o1,h1,_,_,h3⟩:=hk.get b o hb;obtain⟨L,c,l1,l2,l3⟩:=hS.live b o1 h1;exact⟨L,c,l1,l2,h3 Y L c l3⟩
 .obtain⟨o1,h1,r1,_⟩:=hk.get b o hb;obtain⟨o2,h2,r2,_⟩:=hk.get b' o' hb';exact hS.inj b b' o1 o2 B h1 h2 (by rw[r1,r2];exact hq)
 .obtain⟨o1,h1,_⟩:=hk.get b o hb;exact hS.ownlt b o1 B h1 hB
 .obtain⟨o1,h1,_,h2,_⟩:=hk.get b _ hb;rw[h2 os rfl] at h1;exact hS.gho b os L h1 hL
theorem Ext.wkL {Y':Ren}{h2 h1:H}{w w':World}(e:Ext Y h2 w Y' h1 w')(hk:Wk h2 h):Ext Y h w Y' h1 w':=
 ⟨by rw[<- hk.next];exact e.next,fun b hb=>e.agree b (by rw[hk.next];exact hb),fun b hb q=>e.old b (by rw[hk.next];exact hb) (by
   cases g:h2.tr.get b with
   |none=>rfl
   |some o=>obtain⟨o1,x1,_⟩:=hk.get b o g;rw[q] at x1;cases x1),e.size,fun B hB hn=>e.frame B hB fun b o hb hrw=>by
   obtain⟨o1,x1,x2,_⟩:=hk.get b o hb;exact hn b o1 x1 (by rw[x2];exact hrw),fun b o B hb hf hlt=>by
   obtain⟨b0,o0,y1,y2,y4⟩:=e.origin b o B hb hf hlt;obtain⟨o1,x1,x2,_⟩:=hk.get b0 o0 y1;exact⟨b0,o1,x1,y2,fun q=>by rw[x2];exact y4 q⟩,e.tape,e.os,e.output⟩
def Q7:Option TypeId->Option TypeId->Bool
 |none,none=>true
 |some a,some b=>Nat.beq a b
 |_,_=>false
noncomputable def vh:List (V×V×Nat)->List (V×V×Nat)->Bool
 |[],[]=>true
 |a :: l,b :: m=>V.beq 6 a.1 b.1&&V.beq 6 a.2.1 b.2.1&&Nat.beq a.2.2 b.2.2&&vh l m
 |_,_=>false
noncomputable def O.beq:O->O->Bool
 |.cells e n pat tr,.cells e' n' pat' tr'=>Q7 e e'&&Nat.beq n n'&&jf (V.beq 6) n pat tr pat' tr' 0 n
 |.ro e n pat tr,.ro e' n' pat' tr'=>Q7 e e'&&Nat.beq n n'&&jf (V.beq 6) n pat tr pat' tr' 0 n
 |.map es c,.map es' c'=>Nat.beq c c'&&vh es es'
 |.deferred,.deferred=>true
 |_,_=>false
theorem HX {a b:Option TypeId}(h:Q7 a b=true):a=b:=by cases a<;>cases b<;>simp_all [Q7]
theorem vi:∀ {a b:List (V×V×Nat)},vh a b=true->b.length=a.length/\∀ (i:Nat) (y:V×V×Nat),b[i]?=some y->∃ x,a[i]?=some x/\V.beq 6 x.1 y.1=true/\V.beq 6 x.2.1 y.2.1=true/\x.2.2=y.2.2
 |[],[],_=>⟨rfl,fun i y h=>by simp at h⟩
 |x :: a,y :: b,h=>by
  simp only[vh,ae,T.beq_true] at h;obtain⟨⟨⟨h1,h2⟩,h3⟩,h4⟩:=h;obtain⟨l1,l2⟩:=vi h4;refine⟨by simp[l1],fun i z hz=>?_⟩;cases i with
  |zero=>simp at hz;subst hz;exact⟨x,rfl,h1,h2,h3⟩
  |succ i=>simp at hz;obtain⟨u,u1,u2⟩:=l2 i z hz;exact⟨u,by simpa using u1,u2⟩
 |[],_ :: _,h=>by simp[vh] at h
 |_ :: _,[],h=>by simp[vh] at h
theorem De {n:Nat}{pat pat':List V}{tr tr':T V}{cs:Array Value}{d:Nat}(h:jf (V.beq 6) n pat tr pat' tr' 0 n=true)(hr:ED Y n pat tr cs d):ED Y n pat' tr' cs d:=by refine⟨hr.1,fun i v x hv hx=>?_⟩;obtain⟨u,y,u1,u2,u3⟩:=lX h i (cW _) (by have:=eT hv;omega);rw[hv] at u2;cases u2;exact gU u3 (hr.2 i u x u1 hx)
theorem O.HY {a b:O}(h:O.beq a b=true):∀ os,b=.ghost os->a=b:=fun os e=>by subst e;cases a<;>simp[O.beq] at h
theorem O.gU {a b:O}(h:O.beq a b=true):a.rw=b.rw/\∀ Y L c,jD Y a L c->jD Y b L c:=by
 unfold O.beq at h;split at h;·simp only[ae,T.beq_true] at h;obtain⟨⟨h1,rfl⟩,h3⟩:=h;have:=HX h1;subst this;refine⟨rfl,fun Y L c hr=>?_⟩;obtain⟨cs,el,lo,hi,q1,q2,q3,q4,q5,q6⟩:=hr;exact⟨cs,el,lo,hi,q1,q2,q3,q4,q5,De h3 q6⟩
 .simp only[ae,T.beq_true] at h;obtain⟨⟨h1,rfl⟩,h3⟩:=h;have:=HX h1;subst this;refine⟨rfl,fun Y L c hr=>?_⟩;obtain⟨cs,el,fr,q1,q2,q3,q5,q6⟩:=hr;exact⟨cs,el,fr,q1,q2,q3,q5,De h3 q6⟩
 .simp only[ae,T.beq_true] at h;obtain⟨rfl,h2⟩:=h;refine⟨rfl,fun Y L c hr=>?_⟩;obtain⟨es',q1,q2,q3⟩:=hr;obtain⟨l1,l2⟩:=vi h2;refine⟨es',q1,by rw[q2,l1],fun i e e' he he'=>?_⟩;obtain⟨u,u1,u2,u3,u4⟩:=l2 i e he;obtain⟨r1,r2,r3⟩:=q3 i u e' u1 he';exact⟨Ev.gU u2 r1,Ev.gU u3 r2,by rw[r3,u4]⟩
 .exact⟨rfl,fun _ _ _ hr=>hr⟩
 .cases h
structure Rec where
 f:FuncId
 args:List V
 pre:List (Nat×O)
 n0:Nat
 v:V
 post:List (Nat×Option O)
 n1:Nat
noncomputable section
def tG:List (Nat×O)->T O->T O
 |[],t=>t
 |p :: l,t=>(tG l t).put p.1 (some p.2)
def wW:List (Nat×Option O)->T O->T O
 |[],t=>t
 |p :: l,t=>(wW l t).put p.1 p.2
def Rec.start (r:Rec):H:=⟨tG r.pre .leaf,r.n0⟩
def Rec.apply (r:Rec)(h:H):H:=⟨wW r.post (tG r.pre h.tr),r.n1⟩
def has (h:H):List (Nat×O)->Bool
 |[]=>true
 |p :: l=>(match h.tr.get p.1 with
  |some o=>O.beq o p.2
  |none=>false)&&has h l
def Rec.hit (r:Rec)(f:FuncId)(args:List V)(h:H):Bool:=
 Nat.beq f r.f&&(Nat.beq h.next r.n0&&(js (V.beq 6) args r.args&&has h r.pre))
def leaves (h1:H):List (Nat×Option O)->Bool
 |[]=>true
 |p :: l=>(match p.2 with
  |some o=>(match h1.tr.get p.1 with
   |some o1=>O.beq o1 o
   |none=>false)
  |none=>true)&&leaves h1 l
def vj (x:Nat):List (Nat×Option O)->Bool
 |[]=>false
 |p :: l=>Nat.beq p.1 x || vj x l
def stays (h1:H)(post:List (Nat×Option O)):List (Nat×O)->Bool
 |[]=>true
 |p :: l=>(vj p.1 post || (match h1.tr.get p.1 with
  |some o1=>O.beq o1 p.2
  |none=>false))&&stays h1 post l
def Rec.ok (r:Rec)(res:Option (V×H)):Bool:=
 match res with
 |some (v,h1)=>V.beq 6 v r.v&&Nat.beq h1.next r.n1&&leaves h1 r.post&&stays h1 r.post r.pre
 |none=>false
def Q8 (l:T Rec)(f:FuncId)(args:List V)(h:H):Option (V×H):=
 match l.get h.next with
 |some r=>match r.hit f args h with
  |true=>some (r.v,r.apply h)
  |false=>none
 |none=>none
end
theorem jm:∀ (l:List (Nat×O)) (t:T O) (x:Nat),(tG l t).get x=match l.find? (fun p=>Nat.beq p.1 x) with
  |some p=>some p.2
  |none=>t.get x
 |[],_,_=>rfl
 |p :: l,t,x=>by
  simp only[tG,T.eL,dI];cases h:Nat.beq p.1 x with
  |true=>rw[T.beq_true] at h;rw[if_pos h.symm]
  |false=>rw[if_neg (fun q=>by rw[q] at h;simp at h)];exact jm l t x
theorem tH:∀ (l:List (Nat×Option O)) (t:T O) (x:Nat),(wW l t).get x=match l.find? (fun p=>Nat.beq p.1 x) with
  |some p=>p.2
  |none=>t.get x
 |[],_,_=>rfl
 |p :: l,t,x=>by
  simp only[wW,T.eL,dI];cases h:Nat.beq p.1 x with
  |true=>rw[T.beq_true] at h;rw[if_pos h.symm]
  |false=>rw[if_neg (fun q=>by rw[q] at h;simp at h)];exact tH l t x
theorem HZ {h:H}:∀ {l:List (Nat×O)},has h l=true->∀ p,p∈l->∃ o,h.tr.get p.1=some o/\O.beq o p.2=true
 |[],_,p,hp=>by simp at hp
 |q :: l,hh,p,hp=>by
  simp only[has,ae] at hh;rcases aq.1 hp with rfl|hp
  .have:=hh.1;split at this;·rename_i o ho;exact⟨o,ho,this⟩
   .cases this
  .exact HZ hh.2 p hp
theorem vm {h:H}:∀ {l:List (Nat×Option O)},leaves h l=true->∀ p o,p∈l->p.2=some o->∃ o1,h.tr.get p.1=some o1/\O.beq o1 o=true
 |[],_,p,_,hp,_=>by simp at hp
 |q :: l,hh,p,o,hp,ho=>by
  simp only[leaves,ae] at hh;rcases aq.1 hp with rfl|hp
  .have:=hh.1;rw[ho] at this;simp only at this;split at this;·rename_i o1 h1;exact⟨o1,h1,this⟩
   .cases this
  .exact vm hh.2 p o hp ho
theorem zo {h:H}{post:List (Nat×Option O)}:∀ {l:List (Nat×O)},stays h post l=true->∀ p,p∈l->vj p.1 post=true\/∃ o1,h.tr.get p.1=some o1/\O.beq o1 p.2=true
 |[],_,p,hp=>by simp at hp
 |q :: l,hh,p,hp=>by
  simp only[stays,ae,bf] at hh;rcases aq.1 hp with rfl|hp
  .rcases hh.1 with h1|h1;·exact .inl h1
   .split at h1;·rename_i o1 ho;exact .inr ⟨o1,ho,h1⟩
    .cases h1
  .exact zo hh.2 p hp
theorem tJ:∀ {l:List (Nat×Option O)} {x:Nat},vj x l=true->l.find? (fun p=>Nat.beq p.1 x)≠none
 |[],_,h=>by simp[vj] at h
 |p :: l,x,h=>by
  simp only[vj,bf] at h;rw[dI];cases q:Nat.beq p.1 x with
  |true=>simp
  |false=>
   rcases h with h|h;·rw[q] at h;cases h
   .exact tJ h
section
variable {P:Program}{G:Γ}
theorem Rec.sound (hG:GOk P G)(hcodes:pH G)(hext:pG P G){r:Rec}{N:Nat}(hr:r.ok (evT G N r.f r.args r.start)=true){f:FuncId}{args:List V}(hh:r.hit f args h=true)
  {Y:Ren}{cargs:Array Value}{w:World}(ha:fH Y args cargs.toList)(hS:Sim Y h w)(n:Nat):CallsIn Fence.wide n P f cargs w (Ret (Post Y h w r.v (r.apply h))):=by
 simp only[Rec.hit,ae,T.beq_true] at hh;obtain⟨rfl,hn,hargs,hpre⟩:=hh;unfold Rec.ok at hr;split at hr
 .rename_i v1 h1 hrun;simp only[ae,T.beq_true] at hr;obtain⟨⟨⟨hv,hn1⟩,hl⟩,hst⟩:=hr;obtain⟨a1,a2⟩:=jt hargs;have ha':fH Y r.args cargs.toList:=⟨by rw[ha.1,a1],fun i v x p q=>by
   obtain⟨u,u1,u2⟩:=a2 i v p;exact Ev.gU u2 (ha.2 i u x u1 q)⟩
  have hk2:Wk ⟨tG r.pre h.tr,h.next⟩ h:=by
   refine⟨rfl,fun x o hx=>?_⟩;simp only[jm] at hx;split at hx;·rename_i p hp;cases hx;have hm:=di hp;have he:=eC hp;rw[T.beq_true] at he;obtain⟨o1,b1,b2⟩:=HZ hpre p hm;subst he;obtain⟨c1,c2⟩:=O.gU b2;exact⟨o1,b1,c1,O.HY b2,c2⟩
   .exact⟨o,hx,rfl,fun _ _=>rfl,fun _ _ _ q=>q⟩
  have hS2:=hS.wk hk2;have hsub:∀ b o,r.start.tr.get b=some o->(⟨tG r.pre h.tr,h.next⟩:H).tr.get b=some o:=fun b o hb=>by
   simp only[Rec.start,jm] at hb ⊢;split at hb;·exact hb
   .rw[T.eR] at hb;cases hb
  have hS1:Sim Y r.start w:=hS2.sub (by simp only[Rec.start];omega) hsub;refine(Qb hG hcodes hext hrun ha' hS1 n).mono fun e w' ⟨c,he,Y',x1,x2,x3⟩=>⟨c,he,?_⟩;obtain⟨Y2,f0,f1,f2,_⟩:=H7 (h2':=r.apply h) hS2 (by simp only[Rec.start];omega) hsub x1 x2 (by simp only[Rec.apply];omega) fun x o hx=>by
   simp only[Rec.apply,tH] at hx;split at hx;·rename_i p hp;have hm:=di hp;have he:=eC hp;rw[T.beq_true] at he;subst he;obtain⟨o1,b1,b2⟩:=vm hl p o hm hx;obtain⟨c1,c2⟩:=O.gU b2;exact .inr ⟨o1,b1,c1,O.HY b2,c2⟩
   .rename_i hp;simp only[jm] at hx;split at hx
    .rename_i p hq;cases hx;have hm:=di hq;have he:=eC hq;rw[T.beq_true] at he;subst he;rcases zo hst p hm with h3|⟨o1,b1,b2⟩
     .exact absurd hp (tJ h3)
     .obtain⟨c1,c2⟩:=O.gU b2;exact .inr ⟨o1,b1,c1,O.HY b2,c2⟩
    .rename_i hq;refine .inl ⟨?_,?_⟩;·simp only[Rec.start,jm,hq,T.eR]
     .simp only[jm,hq];exact hx
  exact⟨Y2,f1,f2.wkL hk2,(Ev.gU hv x3).loc f0⟩
 .cases hr
theorem J6 {l:T Rec}(h:∀ n r,l.get n=some r->∀ f args h,r.hit f args h=true->∀ Y (cargs:Array Value) w,fH Y args cargs.toList->Sim Y h w->∀ n,CallsIn Fence.wide n P f cargs w (Ret (Post Y h w r.v (r.apply h)))){eqs:List TypeId}{rows:List (FuncId×Row)}:
  pG P (mkG P eqs rows (Q8 l)):=by
 intro f args h0 v h' he Y cargs w ha hS n;have he:Q8 l f args h0=some (v,h'):=he;unfold Q8 at he;split at he
 .rename_i r hr;split at he;·rename_i hh;cases he;exact h _ r hr f args h0 hh Y cargs w ha hS n
  .cases he
 .cases he
end
def Snd (P:Program)(r:Rec):Prop:=
 ∀ f args h,r.hit f args h=true->∀ Y (cargs:Array Value) w,fH Y args cargs.toList->Sim Y h w->∀ n,CallsIn Fence.wide n P f cargs w (Ret (Post Y h w r.v (r.apply h)))
def ja (P:Program)(t:T Rec):Prop:=∀ n r,t.get n=some r->Snd P r
theorem ja.leaf {P:Program}:ja P .leaf:=fun n r h=>by rw[T.eR] at h;cases h
theorem ja.put {P:Program}{t:T Rec}(ht:ja P t){n:Nat}{r:Rec}(hr:Snd P r):ja P (T.put t n (some r)):=fun m q h=>by
 rw[T.eL] at h;split at h;·cases h;exact hr
 .exact ht m q h
end Go.Ev

namespace Go.Ev
open Go.RowKit
def Tj (L:List V):Prop:=∀ v,v∈L->HH v=true
theorem NF {e:Option TypeId}{n:Nat}{L:List V}(h:Tj L):LF (.ro e n L .leaf):=by refine⟨fun Y Y' Mm c ho=>?_⟩;obtain⟨cs,el,fr,h1,h2,h3,h5,h6⟩:=ho;refine⟨cs,el,fr,h1,h2,h3,h5,h6.1,fun i v x hv hx=>?_⟩;obtain⟨k1,k2⟩:=jE hv;exact tD (h v (aC k2)) (h6.2 i v x hv hx)
theorem nO {n i:Nat}{L:List V}{v:V}(hi:i<n)(h:L[i]?=some v):cell n L .leaf i=some v:=by have hb:Nat.blt i n=true:=aH hi;simp only[cell,hb,T.eR,yH,Bg,h]
end Go.Ev






namespace Go.Ev
open Go.RowKit
variable {g:Nat}{os:List O}{h1:H}
structure Qw (f:Nat->Option Nat)(g n n1:Nat):Prop where
 root:f g=some 1001
 new:∀ x y,f x=some y->x=g\/(n<=x/\x<n1)
 inj:∀ x x' y,f x=some y->f x'=some y->x=x'
theorem zan {Y:Ren}{h:H}{w:World}(hS:Sim Y h w)(hg:h.tr.get g=some (.ghost os))(nc:qB os=false){f:Nat->Option Nat}(hn:h.next<=h1.next)(hf:Qw f g h.next h1.next)
  (hget:∀ x o,h1.tr.get x=some o->(x≠g/\h.tr.get x=some o)\/∃ y o',f x=some y/\(pK os).tr.get y=some o'/\RO f o o'):
  ∃ Y1,Sim Y1 h1 w/\Ext Y h w Y1 h1 w:=by
 obtain⟨L,c0,hL,_,_⟩:=hS.live g _ hg;obtain⟨Yg,sg,rg,ig⟩:=(hS.gho g os L hg hL).Ti nc;have hgn:=hS.dom g L hL;have h1000:1000<=h.next:=by obtain⟨z,hz⟩:=hS.glob 999 (by omega);have:=hS.dom 999 _ hz;omega
 let Y1:Ren:=⟨fun x=>if x<h.next then Y x else match f x with
  |some y=>Yg y
  |none=>none,fun x B=>if x<h.next/\x≠g then Y.own x B else match f x with
  |some y=>Yg.own y B
  |none=>False⟩
 have lt:∀ x,x<h.next->Y1 x=Y x:=fun x hx=>by show ite _ _ _=_;rw[if_pos hx]
 have lf:∀ x y,f x=some y->Y1 x=Yg y/\Y1.own x=Yg.own y:=fun x y q=>by
  rcases hf.new x y q with e|⟨e,_⟩;·subst e;rw[hf.root] at q;cases q;refine⟨by rw[lt _ hgn,hL,rg],?_⟩;funext B;show ite _ _ _=_;rw[if_neg (fun q=>q.2 rfl),hf.root]
  .refine⟨?_,?_⟩;·show ite _ _ _=_;rw[if_neg (by omega),q]
   .funext B;show ite _ _ _=_;rw[if_neg (by omega),q]
 have lo:∀ x,x≠g->x<h.next->Y1.own x=Y.own x:=fun x h1 h2=>by funext B;show ite _ _ _=_;rw[if_pos ⟨h2,h1⟩]
 have le:Y.le Y1:=fun x Lx hx=>by rw[lt x (hS.dom x Lx hx)];exact hx
 have old:∀ x o,h.tr.get x=some o->x<h.next:=fun x o hx=>by obtain⟨Lx,_,a,_⟩:=hS.live x o hx;exact hS.dom x Lx a
 have cs:∀ x o,h1.tr.get x=some o->(x≠g/\h.tr.get x=some o/\Y1 x=Y x/\Y1.own x=Y.own x/\Y1.fp x=Y.fp x)\/∃ y o',f x=some y/\(pK os).tr.get y=some o'/\RO f o o'/\Y1 x=Yg y/\Y1.own x=Yg.own y/\Y1.fp x=Yg.fp y:=fun x o hx=>by
  rcases hget x o hx with⟨a,b⟩|⟨y,o',a,b,c⟩;·have hlt:=old x o b;exact .inl ⟨a,b,lt x hlt,lo x a hlt,Ren.zq (lt x hlt) (lo x a hlt)⟩
  .obtain⟨p,q⟩:=lf x y a;exact .inr ⟨y,o',a,b,c,p,q,Ren.zq p q⟩
 refine⟨Y1,⟨fun x hx=>?_,fun x Lx hx=>?_,fun x o hx=>?_,fun x x' o o' B hx hx' hq hf1 hf'=>?_,fun x o B hx hB=>?_,fun x os2 Lx hx hLx=>?_⟩,⟨hn,lt,fun x hx q=>?_,aF _,fun _ _ _=>rfl,fun x o B hx hf1 _=>?_,rfl,rfl,rfl⟩⟩;·rw[lt x (by omega)];exact hS.glob x hx
 .have hx:(if x<h.next then Y x else match f x with
   |some y=>Yg y
   |none=>none)=some Lx:=hx
  split at hx;·omega
  .split at hx
   .rename_i y e;rcases hf.new x y e with q|⟨_,q⟩
    .omega
    .exact q
   .cases hx
 .rcases cs x o hx with⟨_,a,b,_⟩|⟨y,o',a,b,c,d,_⟩;·obtain⟨Lx,cx,p,q,r⟩:=hS.live x o a;exact⟨Lx,cx,by rw[b];exact p,q,r.mono le⟩
  .obtain⟨Lx,cx,p,q,r⟩:=sg.live y o' b;exact⟨Lx,cx,by rw[d];exact p,q,c.rel Yg Y1 (fun u v e=>(lf u v e).1) _ _ r⟩
 .rcases cs x o hx with⟨n1,a,_,_,e1⟩|⟨y,o1,a,b,c1,_,_,e1⟩<;>rcases cs x' o' hx' with⟨n2,a',_,_,e2⟩|⟨y',o2,a',b',c2,_,_,e2⟩;·rw[e1] at hf1;rw[e2] at hf';exact hS.inj x x' o o' B a a' hq hf1 hf'
  .rw[e1] at hf1;rw[e2] at hf';exact(n1 (hS.inj x g o _ B a hg (.inr rfl) hf1 (.inr ((ig B).2 ⟨y',o2,b',hf'⟩)))).elim
  .rw[e1] at hf1;rw[e2] at hf';exact(n2 (hS.inj x' g o' _ B a' hg (.inr rfl) hf' (.inr ((ig B).2 ⟨y,o1,b,hf1⟩)))).elim
  .rw[e1] at hf1;rw[e2] at hf';have:=sg.inj y y' o1 o2 B b b' (hq.imp c1.rw c2.rw) hf1 hf';subst this;exact hf.inj x x' y a a'
 .rcases cs x o hx with⟨_,a,_,b,_⟩|⟨y,o',a,b,_,_,c,_⟩;·rw[b] at hB;exact hS.ownlt x o B a hB
  .rw[c] at hB;exact sg.ownlt y o' B b hB
 .rcases cs x _ hx with⟨_,a,b,c,_⟩|⟨y,o',a,b,c,d,e,_⟩;·rw[b] at hLx;rw[c];exact hS.gho x os2 Lx a hLx
  .rw[d] at hLx;rw[e];rw[c.gh os2 rfl] at b;exact sg.gho y os2 Lx b hLx
 .cases e:h1.tr.get x with
  |none=>rfl
  |some o=>
   rcases hget x o e with⟨_,a⟩|⟨y,o',a,_⟩;·rw[q] at a;cases a
   .rcases hf.new x y a with r|⟨r,_⟩;·rw[r,hg] at q;cases q
    .omega
 .rcases cs x o hx with⟨_,a,_,_,b⟩|⟨y,o',a,b,_,_,_,c⟩;·rw[b] at hf1;exact⟨x,o,a,hf1,id⟩
  .rw[c] at hf1;exact⟨g,_,hg,.inr ((ig B).2 ⟨y,o',b,hf1⟩),fun _=>rfl⟩
theorem Dc {Y:Ren}{h:H}{w:World}(hS:Sim Y h w){os':List O}(hg:h.tr.get g=some (.ghost os))(hh:∀ L,Y g=some L->Gh w os L (Y.own g)->Gh w os' L (Y.own g)):
  Sim Y (h.set g (some (.ghost os'))) w/\Ext Y h w Y (h.set g (some (.ghost os'))) w:=by
 have old:∀ x o,(h.set g (some (.ghost os'))).tr.get x=some o->∃ o',h.tr.get x=some o'/\(x≠g->o'=o)/\(x=g->o=.ghost os'/\o'=.ghost os):=fun x o hx=>by
  rw[H.gj] at hx;split at hx;·rename_i e;subst e;cases hx;exact⟨_,hg,fun q=>absurd rfl q,fun _=>⟨rfl,rfl⟩⟩
  .rename_i e;exact⟨o,hx,fun _=>rfl,fun q=>absurd q e⟩
 refine⟨⟨hS.glob,hS.dom,fun x o hx=>?_,fun x x' o o' B hx hx' hq hf hf'=>?_,fun x o B hx hB=>?_,fun x os2 L hx hL=>?_⟩,⟨aF _,fun _ _=>rfl,fun x _ q=>by rw[H.gj];split<;>first|exact q|(rename_i e;rw[e,hg] at q;cases q),aF _,fun _ _ _=>rfl,fun x o B hx hf _=>?_,rfl,rfl,rfl⟩⟩
 .obtain⟨o',a,b,c⟩:=old x o hx;obtain⟨L,cx,p,q,r⟩:=hS.live x o' a;by_cases e:x=g;·obtain⟨rfl,_⟩:=c e;exact⟨L,cx,p,q,trivial⟩
  .rw[<- b e];exact⟨L,cx,p,q,r⟩
 .obtain⟨o1,a,i1,i2⟩:=old x o hx;obtain⟨o2,a',j1,j2⟩:=old x' o' hx';have rw':∀ (z:Nat) (oz oz':O),(z≠g->oz'=oz)->(z=g->oz=O.ghost os'/\oz'=O.ghost os)->oz.rw=true->oz'.rw=true:=fun z oz oz' i j r=>by
   by_cases e:z=g;·rw[(j e).2];rfl
   .rw[i e];exact r
  exact hS.inj x x' o1 o2 B a a' (hq.imp (rw' x o o1 i1 i2) (rw' x' o' o2 j1 j2)) hf hf'
 .obtain⟨o1,a,_⟩:=old x o hx;exact hS.ownlt x o1 B a hB
 .obtain⟨o1,a,b,c⟩:=old x _ hx;by_cases e:x=g;·obtain⟨e1,e2⟩:=c e;subst e;cases e1;exact hh L hL (hS.gho x os L hg hL)
  .rw[b e] at a;exact hS.gho x os2 L a hL
 .obtain⟨o1,a,b,c⟩:=old x o hx;refine⟨x,o1,a,hf,fun q=>?_⟩;by_cases e:x=g;·obtain⟨_,e2⟩:=c e;rw[e2];rfl
  .rw[b e];exact q
section
variable {Y0:Ren}{h0:H}{w0:World}{env:Env}{h:H}{defs:List Nat}{a:Act}{w:World}
theorem Lr (hA:At Y0 h0 w0 ⟨env,h,defs⟩ a w)(hs:∀ Y,Sim Y h w->∃ Y1,Sim Y1 h1 w/\Ext Y h w Y1 h1 w):At Y0 h0 w0 ⟨env,h1,defs⟩ a w:=by obtain⟨Y,s1,s2,s3,s4⟩:=hA;obtain⟨Y1,t1,t2⟩:=hs Y s1;exact⟨Y1,t1,s2.trans t2,s3.mono (t2.le s1),s4.mono (t2.le s1)⟩
theorem NA (hA:At Y0 h0 w0 ⟨env,h,defs⟩ a w){os':List O}(hg:h.tr.get g=some (.ghost os'))(hc:vn os os'):At Y0 h0 w0 ⟨env,h.set g (some (.ghost os)),defs⟩ a w:=
 Lr hA fun Y s=>by obtain⟨t1,t2⟩:=Dc s hg (os':=os) fun L' _ q=>.Ls hc q;exact⟨Y,t1,t2⟩
theorem NB (hA:At Y0 h0 w0 ⟨env,h,defs⟩ a w)(hg:h.tr.get g=some (.ghost os))(nc:qB os=false){f:Nat->Option Nat}(hn:h.next<=h1.next)(hf:Qw f g h.next h1.next)
  (hget:∀ x o,h1.tr.get x=some o->(x≠g/\h.tr.get x=some o)\/∃ y o',f x=some y/\(pK os).tr.get y=some o'/\RO f o o'):At Y0 h0 w0 ⟨env,h1,defs⟩ a w:=
 Lr hA fun _ s=>zan s hg nc hn hf hget
theorem NC (hA:At Y0 h0 w0 ⟨env,h,defs⟩ a w){h':H}(f:Nat->Option Nat){r:Nat}(hr:f 1001=some r)(hw:Whole os)
  (hinj:∀ x x' y,f x=some y->f x'=some y->x=x')(hh:∀ x o,(pK os).tr.get x=some o->∃ y o',f x=some y/\h.tr.get y=some o'/\RO f o o')(hf:∀ x y,f x=some y->1001<=x/\x<(pK os).next)
  (hn:h.next=h'.next)(hgr:h'.tr.get r=some (.ghost os))(hget:∀ y o,h'.tr.get y=some o->y≠r->h.tr.get y=some o/\∀ x,f x≠some y):At Y0 h0 w0 ⟨env,h',defs⟩ a w:=by
 obtain⟨Y,s1,s2,s3,s4⟩:=hA;obtain⟨Y',t1,t2,t3⟩:=JT s1 f hr hw hinj hh hf hn hgr hget;have hle:Y.le Y':=fun b L hb=>by show Y'.loc b=_;rw[t1];exact hb
 have e:=t3 s2.zero;refine⟨Y',t2,⟨by have:=s2.next;show h0.next<=h'.next;rw[<- hn];exact this,fun b hb=>?_,fun b hb q=>?_,e.size,e.frame,e.origin,e.tape,e.os,e.output⟩,s3.mono hle,s4.mono hle⟩;·rw[<- s2.agree b hb];show Y'.loc b=Y.loc b;rw[t1]
 .have q:=s2.old b hb q;show h'.tr.get b=none;cases g:h'.tr.get b with
  |none=>rfl
  |some o=>
   by_cases e:b=r
   .obtain⟨or,hor⟩:∃ o,(pK os).tr.get 1001=some o:=by
     rw[kS,if_pos (by omega),cJ];cases q:os with
     |nil=>exact absurd q hw.root
     |cons o l=>exact⟨o,rfl⟩
    obtain⟨y,o',k1,k2,_⟩:=hh 1001 or hor;rw[hr] at k1;cases k1;rw[<- e] at k2;have q:h.tr.get b=none:=q;rw[q] at k2;cases k2
   .have k:=(hget b o g e).1;have q:h.tr.get b=none:=q;rw[q] at k;cases k
end
end Go.Ev
namespace Go.Ev
open Go.RowKit
variable {iG:List Nat}{i x:Nat}
noncomputable section
def xp:List (Nat×O)->T O->T O
 |[],t=>t
 |p :: l,t=>(xp l t).put p.1 (some p.2)
open Classical in
def Ow (iG:List Nat)(x:Nat):Option Nat:=if h:∃ i,iG[i]?=some x then some (1001+Classical.choose h) else none
def Ox (iG:List Nat)(x:Nat):Option Nat:=match Nat.ble 1001 x with
 |true=>iG[x - 1001]?
 |false=>none
end
theorem Db (h:iG.Nodup){j:Nat}(hi:iG[i]?=some x)(hj:iG[j]?=some x):i=j:=by obtain⟨h1,e1⟩:=ai.1 hi;obtain⟨h2,e2⟩:=ai.1 hj;exact(List.getElem_inj h).1 (e1.trans e2.symm)
theorem Bn (h:iG.Nodup)(hi:iG[i]?=some x):Ow iG x=some (1001+i):=by have q:∃ i,iG[i]?=some x:=⟨i,hi⟩;unfold Ow;rw[dif_pos q,Db h (Classical.choose_spec q) hi]
theorem Bo {y:Nat}(h:Ow iG x=some y):∃ i,iG[i]?=some x/\y=1001+i:=by
 unfold Ow at h;split at h;·rename_i q;cases h;exact⟨_,Classical.choose_spec q,rfl⟩
 .cases h
theorem Bp (hi:iG[i]?=some x):Ox iG (1001+i)=some x:=by unfold Ox;have:Nat.ble 1001 (1001+i)=true:=aH (by omega);rw[this];simp only[cG];exact hi
theorem wS {y:Nat}(h:Ox iG x=some y):∃ i,iG[i]?=some y/\x=1001+i:=by
 unfold Ox at h;split at h;·rename_i q;have:=az q;exact⟨x - 1001,h,by omega⟩
 .cases h
theorem wT:∀ {l:List (Nat×O)} {t:T O} {x:Nat} {o:O},(xp l t).get x=some o->(∃ i:Nat,l[i]?=some (x,o))\/((∀ p,p∈l->p.1≠x)/\t.get x=some o)
 |[],t,x,o,h=>.inr ⟨fun p hp=>by simp at hp,h⟩
 |p :: l,t,x,o,h=>by
  simp only[xp,T.eL] at h;split at h;·rename_i e;cases h;exact .inl ⟨0,by rw[e];rfl⟩
  .rename_i e;rcases wT h with⟨i,q⟩|⟨q1,q2⟩
   .exact .inl ⟨i+1,q⟩
   .refine .inr ⟨fun q hq=>?_,q2⟩;rcases aq.1 hq with rfl|hq
    .exact fun e'=>e e'.symm
    .exact q1 q hq
theorem mg:∀ {l:List (Nat×O)} {t:T O} {x:Nat},(∀ p,p∈l->p.1≠x)->(xp l t).get x=t.get x
 |[],t,x,_=>rfl
 |p :: l,t,x,h=>by simp only[xp,T.eL];rw[if_neg fun e=>h p (by simp) e.symm];exact mg fun q hq=>h q (by simp[hq])
theorem Bq:∀ {l:List (Nat×O)} {t:T O} {i x:Nat} {o:O},(l.map (·.1)).Nodup->l[i]?=some (x,o)->(xp l t).get x=some o
 |[],t,i,x,o,_,h=>by simp at h
 |p :: l,t,0,x,o,hd,h=>by simp only[bZ,bW] at h;subst h;simp only[xp,T.eL,if_true]
 |p :: l,t,i+1,x,o,hd,h=>by simp only[aQ] at h;simp only[aS,bC] at hd;simp only[xp,T.eL];rw[if_neg fun e=>hd.1 (by rw[<- e];exact aJ.2 ⟨_,aC h,rfl⟩)];exact Bq hd.2 h
section
variable {Y0:Ren}{h0:H}{w0:World}{env:Env}{h:H}{defs:List Nat}{a:Act}{w:World}
theorem zaj (hA:At Y0 h0 w0 ⟨env,h,defs⟩ a w){g:Nat}{os os1:List O}(hg:h.tr.get g=some (.ghost os))(nc:qB os=false){n1:Nat}(hn:h.next<=n1)(hd:iG.Nodup)(h0':iG[0]?=some g)(hl:iG.length=os.length)
  (hlo:∀ (i x:Nat),iG[i]?=some x->i=0\/(h.next<=x/\x<n1))(hro:∀ (i:Nat) (o:O),os1[i]?=some o->∃ o',os[i]?=some o'/\RO (Ow iG) o o'):At Y0 h0 w0 ⟨env,⟨xp (iG.zip os1) (h.tr.put g none),n1⟩,defs⟩ a w:=by
 refine NB hA hg nc (h1:=⟨xp (iG.zip os1) (h.tr.put g none),n1⟩) hn (f:=Ow iG) ⟨Bn hd h0',fun x y q=>?_,fun x x' y q q'=>?_⟩ fun x o hx=>?_
 .obtain⟨i,p,rfl⟩:=Bo q;rcases hlo i x p with r|r;·subst r;rw[h0'] at p;cases p;exact .inl rfl
  .exact .inr r
 .obtain⟨i,p,rfl⟩:=Bo q;obtain⟨i',p',e⟩:=Bo q';have:i=i':=by omega
  subst this;rw[p] at p';cases p';rfl
 .rcases wT hx with⟨i,q⟩|⟨_,q⟩;·rw[List.getElem?_zip_eq_some] at q;obtain⟨o',p1,p2⟩:=hro i o q.2;exact .inr ⟨1001+i,o',Bn hd q.1,by rw[kS,if_pos (by omega),cG];exact p1,p2⟩
  .rw[T.eL] at q;split at q;·cases q
   .rename_i e;exact .inl ⟨e,q⟩
theorem zak (hA:At Y0 h0 w0 ⟨env,h,defs⟩ a w){g:Nat}{os:List O}{h':H}(hd:iG.Nodup)(h0':iG[0]?=some g)(hl:iG.length=os.length)(hw:Whole os)
  (hro:∀ (i:Nat) (o:O) (x:Nat),os[i]?=some o->iG[i]?=some x->∃ o',h.tr.get x=some o'/\RO (Ox iG) o o')(hn:h.next=h'.next)(hg:h'.tr.get g=some (.ghost os))(hget:∀ y o,h'.tr.get y=some o->y≠g->h.tr.get y=some o/\y∉iG):At Y0 h0 w0 ⟨env,h',defs⟩ a w:=by
 refine NC hA (Ox iG) (r:=g) (Bp h0') hw (fun x x' y q q'=>?_) (fun x o hx=>?_) (fun x y q=>?_) hn hg fun y o hy hne=>?_;·obtain⟨i,p,rfl⟩:=wS q;obtain⟨i',p',rfl⟩:=wS q';rw[Db hd p p']
 .have hlt:=Nx hx;rw[lY] at hlt;rw[kS,if_pos hlt.1] at hx;have hi:x - 1001<iG.length:=by omega
  obtain⟨o',p1,p2⟩:=hro _ _ _ hx (ah hi);have e:=Bp (ah hi);rw[show 1001+(x - 1001)=x by omega] at e;exact⟨_,o',e,p1,p2⟩
 .obtain⟨i,p,rfl⟩:=wS q;have:=(ai.1 p).1;rw[lY];omega
 .obtain⟨p,q⟩:=hget y o hy hne;refine⟨p,fun x e=>?_⟩;obtain⟨i,r,_⟩:=wS e;exact q (aC r)
end
end Go.Ev

/- All contracts are kept; the law holds of every account. -/
import Derived.Test.YtboaighhnghpdaaGreatDoorI
import Derived.Test.YtboaighhnghpdaaGreatDoorW
import Derived.Test.YtboaighhnghpdaaGreatDoorShj
import Derived.Test.YtboaighhnghpdaaGreatDoorK1
import Derived.Test.YtboaighhnghpdaaGreatDoorK2
import Derived.Test.YtboaighhnghpdaaGreatDoorK3
import Derived.Test.YtboaighhnghpdaaGreatDoorK4
import Derived.Test.YtboaighhnghpdaaGreatDoorK5
import Derived.Test.YtboaighhnghpdaaGreatDoorK6
import Derived.Test.YtboaighhnghpdaaGreatDoorK7
import Derived.Test.YtboaighhnghpdaaGreatDoorK8
import Derived.Test.YtboaighhnghpdaaGreatDoorK9
import Derived.Test.YtboaighhnghpdaaGreatDoorK10
import Derived.Test.YtboaighhnghpdaaGreatDoorK11
import Derived.Test.YtboaighhnghpdaaGreatDoorK12
import Derived.Test.YtboaighhnghpdaaGreatDoorK13
import Derived.Test.YtboaighhnghpdaaGreatDoorK14
import Derived.Test.YtboaighhnghpdaaGreatDoorK15
import Derived.Test.YtboaighhnghpdaaGreatDoorK16
import Derived.Deep.Slices
import Derived.Below
set_option linter.unusedVariables false
set_option linter.unusedSimpArgs false
set_option maxHeartbeats 1000000
namespace Go.Proofs.YtboaighhnghpdaaGreatDoor
open Go Go.Ev Go.Ae Go.RowKit
set_option maxRecDepth 100000
variable {B:TH}
theorem SF (I2:∀ cn,cn∈C.spec 106->fP Tryz.prog (Th B C.inv) 106 cn)(h242:∀ cn,cn∈C.spec 242->fP Tryz.prog (Th B C.inv) 242 cn):Kept B mP:=eM (eM (fun f h=>nomatch h) h242) I2
theorem SG (hh:fR B Tryz.prog (cfL []))(k:Kept B mP):Kept B oY:=(eM (eM (eM (eM (eM (eM (eM (eM (eM (eM (eM (eM (eM (eM (eM (eM (eM (eM (eM (eM (eM (eM (eM (eM (eM (eM (eM (eM (eM (eM k (eN hh k Wj)) (eN hh k Wh)) (eN hh k Wd)) (eN hh k Wc)) (eN hh k V7)) (eN hh k V2)) (eN hh k V0)) (eN hh k VX)) (eN hh k VW)) (eN hh k VV)) (eN hh k VS)) (eN hh k VO)) (eN hh k VM)) (eN hh k VL)) (eN hh k VF)) (eN hh k VE)) (eN hh k Vz)) (eN hh k Vx)) (eN hh k Vu)) (eN hh k Vt)) (eN hh k Vs)) (eN hh k Vn)) (eN hh k Vj)) (eN hh k k64)) (eN hh k k63)) (eN hh k k43)) (eN hh k k22)) (eN hh k k21)) (eN hh k V1)) (eN hh k k4))
theorem SH (hh:fR B Tryz.prog (cfL []))(k:Kept B oY):Kept B zK:=(eM (eM (eM (eM (eM (eM (eM (eM (eM (eM (eM (eM (eM (eM (eM (eM (eM (eM (eM (eM (eM (eM (eM (eM (eM k (eN hh k Wn)) (eN hh k Wm)) (eN hh k Wl)) (eN hh k Wi)) (eN hh k Wb)) (eN hh k Wa)) (eN hh k V9)) (eN hh k V8)) (eN hh k V6)) (eN hh k V5)) (eN hh k V3)) (eN hh k VN)) (eN hh k VJ)) (eN hh k VI)) (eN hh k VH)) (eN hh k VG)) (eN hh k Vv)) (eN hh k Vm)) (eN hh k Vl)) (eN hh k Vk)) (eN hh k k39)) (eN hh k k37)) (eN hh k k35)) (eN hh k k33)) (eN hh k k20))
theorem SI (hh:fR B Tryz.prog (cfL []))(k:Kept B zK):Kept B zL:=(eM (eM (eM (eM (eM (eM (eM (eM (eM (eM (eM (eM (eM (eM k (eN hh k Wg)) (eN hh k Wf)) (eN hh k We)) (eN hh k VZ)) (eN hh k VY)) (eN hh k VU)) (eN hh k VQ)) (eN hh k VP)) (eN hh k VK)) (eN hh k Vw)) (eN hh k Vr)) (eN hh k Vq)) (eN hh k Vo)) (eN hh k k74))
theorem PZ (hh:fR B Tryz.prog (cfL []))(k:Kept B zL):fP Tryz.prog (Th B C.inv) 138 (cnN 0 (C.spec 138)):=gP 11 0 rfl (gJ hh k Kc) (gP 11 4 rfl (gJ hh k Ke) (gP 11 6 rfl (gJ hh k Kg) (gP 11 9 rfl (gJ hh k Kh) (gJ hh k Ki))))
theorem UR (hh:fR B Tryz.prog (cfL []))(k:Kept B zL):∀ cn,cn∈C.spec 138->fP Tryz.prog (Th B C.inv) 138 cn:=fun cn h=>by
 have e:C.spec 138=[cnN 0 (C.spec 138)]:=by kernel_rfl
 rw[e] at h;rw[aj.1 h];exact PZ hh k
theorem SJ (hh:fR B Tryz.prog (cfL []))(k:Kept B zL):Kept B NZ:=(eM (eM (eM (eM (eM (eM (eM (eM k (eN hh k V4)) (eN hh k VD)) (eN hh k VB)) (eN hh k Vy)) (UR hh k)) (eN hh k Vp)) (eN hh k k81)) (eN hh k k25))
theorem SL (hh:fR B Tryz.prog (cfL []))(k:Kept B NZ):Kept B Rc:=(eM (eM (eM (eM k (eN hh k VT)) (eN hh k k56)) (eN hh k k38)) (eN hh k k16))
theorem SM (hh:fR B Tryz.prog (cfL []))(k:Kept B Rc):Kept B zO:=(eM k (eN hh k VA))
theorem SN (hh:fR B Tryz.prog (cfL []))(k:Kept B zO):fP Tryz.prog (Th B C.inv) 82 (cnN 0 (C.spec 82)):=gP 5 4 rfl (gJ hh k NO) (gP 5 6 rfl (gJ hh k NP) (gP 5 8 rfl (gJ hh k NQ) (gP 5 12 rfl (gJ hh k NR) (gJ hh k NS))))
theorem SO (hh:fR B Tryz.prog (cfL []))(k:Kept B zO):fP Tryz.prog (Th B C.inv) 82 (cnN 1 (C.spec 82)):=gP 5 4 rfl (gJ hh k NT) (gP 5 6 rfl (gJ hh k NU) (gP 5 8 rfl (gJ hh k NW) (gP 5 12 rfl (gJ hh k NX) (gJ hh k NY))))
theorem c82 (hh:fR B Tryz.prog (cfL []))(k:Kept B zO):∀ cn,cn∈C.spec 82->fP Tryz.prog (Th B C.inv) 82 cn:=fun cn h=>by
 have e:C.spec 82=[cnN 0 (C.spec 82),cnN 1 (C.spec 82)]:=by kernel_rfl
 rw[e] at h;rcases aq.1 h with h|h
 .rw[h];exact SN hh k
 .rw[aj.1 h];exact SO hh k
theorem SP (hh:fR B Tryz.prog (cfL []))(k:Kept B zO):Kept B Rd:=(eM k (c82 hh k))
theorem SQ (hh:fR B Tryz.prog (cfL []))(k:Kept B Rd):Kept B Re:=(eM k (eN hh k k57))
theorem P0 (hh:fR B Tryz.prog (cfL []))(k:Kept B Re):Kept B lz:=(eM k (eN hh k k30))
theorem kept (hh:fR B Tryz.prog (cfL []))(I2:∀ cn,cn∈C.spec 106->fP Tryz.prog (Th B C.inv) 106 cn)(h242:∀ cn,cn∈C.spec 242->fP Tryz.prog (Th B C.inv) 242 cn):Kept B lz:=P0 hh (SQ hh (SP hh (SM hh (SL hh (SJ hh (SI hh (SH hh (SG hh (SF I2 h242)))))))))
end Go.Proofs.YtboaighhnghpdaaGreatDoor
namespace Go.Proofs.YtboaighhnghpdaaGreatDoor
open Go Go.Ev Go.Ae Go.RowKit
set_option maxRecDepth 100000
variable {B:TH}
theorem SR (k:uq B Ik):uq B xg:=(jA (jA (jA (jA (jA (jA k (kE k TK)) (kE k TJ)) (kE k TI)) (kE k Wq)) (kE k Wp)) (kE k Wo))
theorem P1 (k:uq B xg):∀ cn,cn∈CL.spec 6->fP Tryz.prog (Th B C.inv) 6 cn:=fun cn h=>by
 have e:CL.spec 6=[CL.K8 (CL.JI++CL.le1 32) (.tp [.k .nils,C.I 32]) [],CL.rB 0 0 0,CL.rB 0 0 1,CL.rB 0 1 0,CL.rB 0 1 1,CL.rB 1 0 0,CL.rB 1 0 1,CL.rB 1 1 0,CL.rB 1 1 1]:=by kernel_rfl
 rw[e] at h;simp only[aq,aA,or_false] at h;rcases h with rfl|rfl|rfl|rfl|rfl|rfl|rfl|rfl|rfl
 .exact fL k kJf
 .exact fL k Tn
 .exact fL k To
 .exact fL k Tp
 .exact fL k Tq
 .exact fL k Ts
 .exact fL k Tt
 .exact fL k Tu
 .exact fL k Tv
theorem US (a:uq B Ik):fP Tryz.prog (Th B C.inv) 3 (CL.Hg (C.rg 32 0 17)):=
 have b:=SR a;have k:uq B Il:=jA b (P1 b)
 gP 31 0 rfl (fL k kLn) (gP 32 0 rfl (gP 33 (-1) rfl (gP 34 (-1) rfl (gP 35 0 rfl (fL k Tx) (fL k Tw)) (gP 35 0 rfl (fL k Tz) (fL k Ty))) (gP 34 (-1) rfl (gP 35 0 rfl (fL k TD) (fL k TC)) (gP 35 0 rfl (fL k TF) (fL k TE)))) (fL k kLc))
end Go.Proofs.YtboaighhnghpdaaGreatDoor
namespace Go.Proofs.YtboaighhnghpdaaGreatDoor
open Go Go.Ev Go.Ae Go.Ae.C Go.RowKit
set_option maxRecDepth 100000
def B7:TH:=fun τ zs b hp=>τ=7/\∃ n:Nat,zs=[(n:Int)]/\hp=[(b,Hid.gM n)]
noncomputable def Bt (wd:List V)(d:Acc)(q:Nat->Int):TH:=fun τ zs b hp=>B7 τ zs b hp\/(τ=99/\zs=iX d q/\b=0/\hp=qJ wd d)
theorem KW:tX B7:=fun zs b hp=>⟨fun h=>h.2,fun h=>⟨rfl,h⟩⟩
section
variable {wd:List V}{d:Acc}{q:Nat->Int}
theorem MY:mL (Th (Bt wd d q) C.inv) 99 (iX d q) (qJ wd d):=fun zs b hp h=>by
 obtain⟨n,h⟩:=h;cases n with
 |zero=>cases h
 |succ n=>
  have h:Bt wd d q 99 zs b hp:=by
   obtain⟨_,⟨_,h⟩|⟨p,hp,_⟩⟩:=h;·exact h
   .exact absurd hp (by intro h;cases h)
  rcases h with h|⟨_,h1,_,h2⟩;·exact absurd h.1 (by decide)
  .exact⟨h1,h2⟩
theorem Ps:Kept B7 lz:=kept (I1 KW) (fun cn h=>by rw[aj.1 (show cn∈[_] from h)];exact RB KW) (fun cn h=>by rw[aj.1 (show cn∈[BZ] from h)];exact RA)
theorem wo:∀ v,v∈fY->PV v:=fun v hv=>by simp only[fY,aq,aA,or_false] at hv;rcases hv with rfl|rfl|rfl|rfl|rfl|rfl|rfl|rfl|rfl|rfl|rfl|rfl<;>exact KR
theorem yn {b:Nat}{o:O}(h:hV.tr.get b=some o):(b=0/\o=.ro (some 0) 12 fY .leaf)\/(b=2/\o=.ro (some 0) 4 Gd .leaf):=by
 unfold hV at h;simp only[T.eL,T.eR] at h;split at h;·rename_i e;cases h;exact .inl ⟨e,rfl⟩
 .split at h;·rename_i e;cases h;exact .inr ⟨e,rfl⟩
  .cases h
theorem MZ:DD hV:=by
 refine⟨fun b o h=>?_,fun b o h=>?_,fun b o h=>?_,fun b os h=>?_,aF 1000⟩;·rcases yn h with⟨_,rfl⟩|⟨_,rfl⟩<;>rfl
 .show b<1000;rcases yn h with⟨rfl,_⟩|⟨rfl,_⟩<;>omega
 .rcases yn h with⟨_,rfl⟩|⟨_,rfl⟩;·exact sH (L:=fY) wo
  .refine sH (L:=Gd) fun v hv=>?_;simp only[Gd,aq,aA,or_false] at hv;rcases hv with rfl|rfl|rfl|rfl<;>exact kj
 .rcases yn h with⟨_,e⟩|⟨_,e⟩<;>cases e
theorem Ju:ny fY d 5 [] (.bool true):=by
 obtain⟨h1,c1⟩:=Nc N5;exact⟨_,quiet c1 MZ (h:=d.mem fY) (fun b o h=>by
  rcases yn h with⟨rfl,rfl⟩|⟨rfl,rfl⟩;·exact Pb
  .exact Av) (fun Y l h=>Gt (fun v hv=>by cases hv) Y l h) nB⟩
theorem GD {M:TH}(hB:mL M 99 (iX d q) (qJ fY d))(ok:d.Ok):∀ cn,cn∈CL.spec 5->fP Tryz.prog M 5 cn:=fun cn h=>by rw[aj.1 (show cn∈[(⟨50,0,1,[],[CL.ob9],[],[⟨0,0,0,.k (.bool true),[CL.ob9],[]⟩]⟩:CN)] from h)];refine jR hB ok wo (vs0:=[]) rfl (fun Z h=>.nil) (fun v hv=>nomatch hv) rfl fun _=>?_;exact⟨_,Ju,nB,_,_,aj.2 rfl,fun Z h=>⟨fun g hg=>(nomatch hg),.k _⟩⟩
theorem R6 (ok:d.Ok)(an:Ans fY d q):uq (Bt fY d q) Ik:=fun f hf=>by
 have hB:=MY (wd:=fY) (d:=d) (q:=q);have hw:=wo;simp only[Ik,aq,aA,or_false] at hf;rcases hf with rfl|rfl|rfl|rfl|rfl|rfl|rfl|rfl|rfl|rfl|rfl|rfl|rfl
 .exact MW hB ok hw an
 .exact GD hB ok
 .exact MX hB ok hw an
 .exact Gy hB ok hw an
 .exact Gz hB ok hw an
 .exact GB hB ok hw an
 .intro cn h;rw[aj.1 (show cn∈[GW] from h)];exact UN N5.s N5.u
 .exact AE hB ok hw an
 .exact Po hB ok hw an
 .exact Pp hB ok hw an
 .exact Pq hB ok hw an
 .exact Pr hB ok hw an
 .exact DP hB ok hw an
theorem GF {Z:NV}:∀ {zs:List Int} {k:Nat},(∀ (j:Nat) z,zs[j]?=some z->Z.ints[k+j]?=some z)->rO Z (news (fun j=>(j,0)) k zs.length) zs
 |[],_,_=>.nil
 |z :: zs,k,h=>.cons ⟨z,h 0 z rfl,(bG _).symm⟩ (GF (zs:=zs) (k:=k+1) fun j z' q=>by have:=h (j+1) z' q;rw[show k+1+j=k+(j+1) by omega];exact this)
theorem R7 (ok:d.Ok)(R:Real fY d):∃ h1,iW Tryz.prog (.fn 3 [d.qI,d.kh]) (d.mem fY) (.bool true) h1:=by
 obtain⟨q,an⟩:=MV (wd:=fY) Ps ok R;have law:=US (R6 ok an);obtain⟨Z,hZ⟩:∃ Z:NV,Z=⟨0 :: iX d q,[],[0],[qJ fY d]⟩:=⟨_,rfl⟩;have e1:Z.ints=0 :: iX d q:=by rw[hZ]
 have hc:=uG ok;have facts:∀ g,g∈C.jC 1++C.rg 32 0 17->Holds Z g:=fun g hg=>by
  rcases aK.1 hg with hg|hg
  .have n:∀ (j:Nat) (z:Int),j<10->(rq d)[j]?=some z->Num Z (1+j,0) z:=fun j z hj p=>⟨z,by rw[e1,(Gv ok).1 j hj];exact p,(bG _).symm⟩;obtain⟨c1,c2,c3,c4,c5,c6,c7,c8,c9,hc⟩:=hc;have hi:rq d=[c1,c2,c3,c4,c5,c6,c7,c8,c9,d.u]:=by unfold rq;rw[hc];rfl
   have hz:=ok.c;rw[hc] at hz;rw[hi] at n;have any:∀ {x:Nat} {z:Int},Num Z (x,0) z->I64 z->∀ g,g∈anyI x->Holds Z g:=fun {x z} p hI g hg=>by
    simp only[anyI,rg,aq,aA,or_false] at hg;rcases hg with rfl|rfl
    .exact⟨_,_,z0 e1 nX,p,hI.1⟩
    .exact⟨_,_,p,z0 e1 lA,hI.2⟩
   simp only[jC,ik,aK,aA,or_false] at hg;rcases hg with(hg|hg|hg|hg|hg|hg|hg|hg|hg)|hg
   .exact any (n 0 _ (by omega) rfl) (hz _ (by simp)) g hg
   .exact any (n 1 _ (by omega) rfl) (hz _ (by simp)) g hg
   .exact any (n 2 _ (by omega) rfl) (hz _ (by simp)) g hg
   .exact any (n 3 _ (by omega) rfl) (hz _ (by simp)) g hg
   .exact any (n 4 _ (by omega) rfl) (hz _ (by simp)) g hg
   .exact any (n 5 _ (by omega) rfl) (hz _ (by simp)) g hg
   .exact any (n 6 _ (by omega) rfl) (hz _ (by simp)) g hg
   .exact any (n 7 _ (by omega) rfl) (hz _ (by simp)) g hg
   .exact any (n 8 _ (by omega) rfl) (hz _ (by simp)) g hg
   .simp only[AU,rg,aq,aA,or_false] at hg;rcases hg with rfl|rfl
    .exact⟨_,_,z0 e1 0,n 9 _ (by omega) rfl,ok.u.1⟩
    .exact⟨_,_,n 9 _ (by omega) rfl,z0 e1 4294967295,ok.u.2⟩
  .simp only[rg,aq,aA,or_false] at hg;rcases hg with rfl|rfl
   .exact⟨_,_,z0 e1 0,zn ok e1 (j:=16) rfl,an.r32.1⟩
   .exact⟨_,_,zn ok e1 (j:=16) rfl,z0 e1 17,an.r32.2⟩
 have avs:AVs Z [CL.cfg,CL.acc] [d.qI,d.kh]:=.cons (rz ok e1) (.cons (lO ok e1) .nil);have hM:Mem (Th (Bt fY d q) C.inv) (lB Z (gq 0 [CL.ob9] .leaf) (d.mem fY)) Z ⟨2,lJ (DB 0 [CL.cfg,CL.acc]) .leaf,gq 0 [CL.ob9] .leaf,Nat.add 1 50,0,1,[CL.ob9].length,ie (C.jC 1++C.rg 32 0 17) ⟨.leaf,.leaf,[]⟩,[]⟩ ⟨⟨2,fT 0 [d.qI,d.kh] .leaf⟩,d.mem fY,[]⟩:=by
  refine xU (by rw[e1,aU,Gw ok]) (by rw[e1];rfl) (by rw[hZ];rfl) (by rw[hZ];rfl) (by rw[hZ];rfl) facts (by rw[we];exact oq avs ER.nil) (by simp) (fun i U ao p=>?_) (fun i j hp hp' a b ne=>?_) fun g hg=>?_
  .match i,p with
   |0,p=>
    cases p;refine⟨0,qJ fY d,by rw[hZ];rfl,by rw[hZ];rfl,?_,fun x hx=>⟨AB hx,KT (AB hx)⟩⟩;have nn:rO Z CL.iG (iX d q):=by
     have:=GF (Z:=Z) (zs:=iX d q) (k:=1) fun j z p=>by rw[e1,bp];exact p
     rw[Gw ok] at this;exact this
    exact .ob nn ⟨1,Gw ok,.inl ⟨rfl,.inr ⟨rfl,rfl,rfl,rfl⟩⟩⟩ ⟨_,_,rfl⟩ R4
   |i+1,p=>simp at p
  .rw[hZ] at a b;match i,j,a,b with
   |0,0,_,_=>exact absurd rfl ne
   |i+1,_,a,_=>simp at a
   |0,j+1,_,b=>simp at b
  .rw[aj.1 hg];refine⟨by show 2<1005;omega,fun hp hh p hp' e=>?_,Av⟩;rw[hZ] at hh;rw[aj.1 hh] at hp';have:=AB hp';rw[e,Av] at this;have h2:p∈qJ fY d:=hp';unfold qJ at h2;rcases aq.1 h2 with rfl|h2
   .exact absurd e (by decide)
   .have:∀ {b:Nat} {S:SD},p∈hpS b S->p.1=b:=fun {b S} h=>by
     cases S with
     |none=>cases h
     |some x=>rw[aj.1 h]
    simp only[aK] at h2;have e:p.1=2:=e;rcases h2 with h|h|h|h|h<;>have:=this h<;>omega
 obtain⟨v,h1,c1,o,o1,Zo,le,mo,fo,ao⟩:=law Z [d.qI,d.kh] (d.mem fY) 2 rfl hM;rw[aj.1 o1] at ao;have ao:AV Zo (.k (.bool true)) v:=ao;have e:v=.bool true:=by cases ao;rfl
 rw[e] at c1;exact⟨h1,c1⟩
end
variable {e t:TypeId}{n fuel:Nat}{cs:List Value}{ks:List EK}{v:Value}{Y:Ren}{W:World}
theorem Dj (B o i:Nat):(⟨B,o,none⟩:Addr).add i=⟨B,o+i,none⟩:=by
 by_cases hz:i=0;·subst hz;rfl
 .simp only[Addr.add,hz,if_false]
inductive SIn (W:World):Value->SD->Option (Nat×Nat×Nat)->Prop
 |isNil:SIn W (.slice none 0 0) none none
 |isSl {B o n c:Nat} {L:List V} {cs:Array Value} {el:TypeId} {fr:Nat×Nat} (hw:W.heap[B]?=some (.cells cs el fr)) (hle:o+L.length<=cs.size)
   (hc:∀ (i:Nat) (v:V),L[i]?=some v->∃ x,cs[o+i]?=some x/\Go.Ev.one x=true/\∀ Y,Rel Y v x):SIn W (.slice (some ⟨B,o,none⟩) n c) (some (L,n,c)) (some (B,o,cs.size))
theorem QD {P:Program}{fits:TypeId->Bool}{d:Nat}{count off:Nat}(h:rowAt P fits d e count off n=true):off<=count * P.cellsOf e:=by
 cases d with
 |zero=>simp[rowAt] at h
 |succ d=>
  unfold rowAt at h;simp only at h;split at h;·cases h
  .have sp:0<P.cellsOf e:=by omega
   have h1:=dH off (P.cellsOf e);have h2:=dD off sp;rw[aY count];rcases Bool.or_eq_true_iff.1 h with h|h
   .simp only[ae,beq_iff_eq,decide_eq_true_eq] at h;have:=Nat.mul_le_mul_left (P.cellsOf e) (show off / P.cellsOf e<=count by omega);omega
   .have h3:=of_decide_eq_true (Bool.and_eq_true_iff.1 h).1;have:=Nat.mul_le_mul_left (P.cellsOf e) (show off / P.cellsOf e+1<=count by omega);rw[Nat.mul_add] at this;omega
theorem NL {P:Program}{d:Nat}{row:TypeId}{count off:Nat}(hna:∀ m u,P.underlying e≠some (.array m u))(h:liesAt P d row count off e n=true):off<=count * P.cellsOf row:=by
 cases d with
 |zero=>simp[liesAt] at h
 |succ d=>
  unfold liesAt at h;rcases Bool.or_eq_true_iff.1 h with h|h
  .exact QD h
  .split at h;·rename_i m u' q;exact absurd q (hna _ _)
   .cases h
theorem By (k:IntKind):rE k=k.min:=by cases k<;>rfl
theorem Bz (k:IntKind):pW k=k.max:=by cases k<;>rfl
def kB (P:Program)(t:TypeId):EK->Bool
 |.int k none none=>match P.underlying t with
  |some (.int k')=>decide (k'=k)
  |_=>false
 |.str=>match P.underlying t with
  |some .string=>true
  |_=>false
 |_=>false
def xe (P:Program):List Field->List EK->Nat->Bool
 |[],[],_=>true
 |f :: fs,k :: ks,i=>Nat.beq f.offset i&&(Nat.beq (P.cellsOf f.type) 1&&(kB P f.type k&&xe P fs ks (i+1)))
 |_,_,_=>false
def Ie (P:Program)(e:TypeId)(ks:List EK):Bool:=Nat.beq (P.cellsOf e) ks.length&&match P.underlying e with
 |some (.struct fs)=>xe P fs.toList ks 0
 |some (.array _ _)=>false
 |_=>match ks with
  |[k]=>kB P e k
  |_=>false
def Ws (P:Program):List Field->List EK->Nat->Bool
 |[],[],_=>true
 |[],_ :: _,_=>false
 |f :: fs,ks,i=>Nat.beq f.offset i&&(Ie P f.type (ks.take (P.cellsOf f.type))&&Ws P fs (ks.drop (P.cellsOf f.type)) (i+P.cellsOf f.type))
def Wu (P:Program)(e:TypeId)(ks:List EK):Bool:=Nat.beq (P.cellsOf e) ks.length&&match P.underlying e with
 |some (.struct fs)=>Ws P fs.toList ks 0
 |some (.array _ _)=>false
 |_=>match ks with
  |[k]=>kB P e k
  |_=>false
structure Cin (k:EK)(x:Value)(v:V):Prop where
 one:Go.Ev.one x=true
 rel:∀ Y,Rel Y v x
 kv:∀ Z,KV Z k v
section
variable {H:Type}{enc:TypeId×Value->H}{P:Program}{W:World}{base:Nat}{spare:Nat->Bool}{held:Bool}
theorem If {k:EK}(hk:kB P t k=true){x:DataW H×List MemPlace}(h:DataW.trod enc P W base spare held fuel t cs=some x):∃ v c,cs=[c]/\Cin k c v:=by
 unfold kB at hk;split at hk
 .split at hk;·rename_i k' u;obtain rfl:=of_decide_eq_true hk;obtain⟨n,rfl,_,w⟩:=DataW.trod_int u h;refine⟨.int _ n,_,rfl,rfl,fun Y=>.int _ _,fun Z=>.int ?_ (fun _ h=>nomatch h) (fun _ h=>nomatch h)⟩;simp only[Lit.wf,ae,decide_eq_true_eq] at w;rw[By,Bz];exact w
  .cases hk
 .split at hk
  .rename_i u;obtain⟨s,rfl,_,_⟩:=DataW.trod_string u h;have hs:(⟨s.data.toList.toArray⟩:ByteArray)=s:=by rw[aP]
   refine⟨.str s.data.toList,_,rfl,rfl,fun Y=>?_,fun Z=>.str _⟩;have:=Rel.str (Y:=Y) s.data.toList;rwa [hs] at this
  .cases hk
 .cases hk
theorem zI {fuel:Nat}{cs:List Value}:∀ {fs:List Field} {ks:List EK} {i:Nat},xe P fs ks i=true->(∀ (j:Nat) (f:Field),fs[j]?=some f->∃ x,DataW.trod enc P W base spare held fuel f.type ((cs.drop f.offset).take (P.cellsOf f.type))=some x) ->
  ∀ j,j<ks.length->∃ v c k,cs[i+j]?=some c/\ks[j]?=some k/\Cin k c v
 |[],[],_,_,_,j,hj=>absurd hj (Nat.not_lt_zero _)
 |[],_ :: _,_,h,_,_,_=>by cases h
 |_ :: _,[],_,h,_,_,_=>by cases h
 |f :: fs,k :: ks,i,h,hx,j,hj=>by
  simp only[xe,ae] at h;obtain⟨h1,h2,h3,h4⟩:=h;have h1:=Nat.eq_of_beq_eq_true h1;have h2:=Nat.eq_of_beq_eq_true h2;cases j with
  |zero=>
   obtain⟨x,hx⟩:=hx 0 f rfl;obtain⟨v,c,q,ci⟩:=If h3 hx;rw[h1,h2] at q;refine⟨v,c,k,?_,rfl,ci⟩;have:((cs.drop i).take 1)[0]?=some c:=by rw[q];rfl
   rwa [List.getElem?_take_of_lt (by decide),bJ] at this
  |succ j=>obtain⟨v,c,k',q1,q2,ci⟩:=zI h4 (fun j f hf=>hx (j+1) f (by simpa using hf)) j (by simpa using hj);exact⟨v,c,k',by rw[show i+(j+1)=i+1+j by omega];exact q1,by simpa using q2,ci⟩
theorem NM (he:Ie P e ks=true){x:DataW H×List MemPlace}(h:DataW.trod enc P W base spare held fuel e cs=some x)(j:Nat)(hj:j<ks.length):∃ v c k,cs[j]?=some c/\ks[j]?=some k/\Cin k c v:=by
 unfold Ie at he;obtain⟨_,he⟩:=Bool.and_eq_true_iff.1 he;split at he
 .rename_i fs u;obtain⟨xs,n,_,_,_,hl,hf⟩:=DataW.trod_struct u h;obtain⟨v,c,k,q⟩:=zI (enc:=enc) (W:=W) (base:=base) (spare:=spare) (held:=held) (fuel:=n) (cs:=cs) he (fun j f hf'=>by
   have hf':fs[j]?=some f:=by simpa using hf'
   rw[hf j f hf',ah (by rw[hl];exact(aD.1 hf').1)];exact⟨_,rfl⟩) j hj
  exact⟨v,c,k,by simpa using q.1,q.2⟩
 .cases he
 .split at he
  .rename_i k _ _;obtain⟨v,c,rfl,ci⟩:=If he h;obtain rfl:j=0:=by simpa using hj
   exact⟨v,c,k,rfl,rfl,ci⟩
  .cases he
theorem NN (he:Ie P e ks=true):(∀ m u,P.underlying e≠some (.array m u))/\P.cellsOf e=ks.length:=by unfold Ie at he;obtain⟨h1,he⟩:=Bool.and_eq_true_iff.1 he;refine⟨fun m u q=>?_,Nat.eq_of_beq_eq_true h1⟩;rw[q] at he;cases he
theorem Wt {fuel:Nat}{cs:List Value}:∀ {fs:List Field} {ks:List EK} {i:Nat},Ws P fs ks i=true->(∀ (j:Nat) (f:Field),fs[j]?=some f->∃ x,DataW.trod enc P W base spare held fuel f.type ((cs.drop f.offset).take (P.cellsOf f.type))=some x) ->
  ∀ j,j<ks.length->∃ v c k,cs[i+j]?=some c/\ks[j]?=some k/\Cin k c v
 |[],[],_,_,_,j,hj=>absurd hj (Nat.not_lt_zero _)
 |[],_ :: _,_,h,_,_,_=>by cases h
 |f :: fs,ks,i,h,hx,j,hj=>by
  simp only[Ws,ae] at h;obtain⟨h1,h2,h3⟩:=h;have h1:=Nat.eq_of_beq_eq_true h1;have hc:=(NN h2).2;rw[cX] at hc;by_cases q:j<P.cellsOf f.type;·obtain⟨x,hx⟩:=hx 0 f rfl;obtain⟨v,c,k,q1,q2,ci⟩:=NM h2 hx j (by rw[cX];omega);rw[List.getElem?_take_of_lt q] at q1 q2;rw[bJ,h1] at q1;exact⟨v,c,k,q1,q2,ci⟩
  .obtain⟨v,c,k,q1,q2,ci⟩:=Wt h3 (fun j f hf=>hx (j+1) f (by simpa using hf)) (j - P.cellsOf f.type) (by rw[bO];omega);rw[bJ] at q2;exact⟨v,c,k,by rw[show i+j=i+P.cellsOf f.type+(j - P.cellsOf f.type) by omega];exact q1,by rw[show j=P.cellsOf f.type+(j - P.cellsOf f.type) by omega];exact q2,ci⟩
theorem Wy (he:Wu P e ks=true){x:DataW H×List MemPlace}(h:DataW.trod enc P W base spare held fuel e cs=some x)(j:Nat)(hj:j<ks.length):∃ v c k,cs[j]?=some c/\ks[j]?=some k/\Cin k c v:=by
 unfold Wu at he;obtain⟨_,he⟩:=Bool.and_eq_true_iff.1 he;split at he
 .rename_i fs u;obtain⟨xs,n,_,_,_,hl,hf⟩:=DataW.trod_struct u h;obtain⟨v,c,k,q⟩:=Wt (enc:=enc) (W:=W) (base:=base) (spare:=spare) (held:=held) (fuel:=n) (cs:=cs) he (fun j f hf'=>by
   have hf':fs[j]?=some f:=by simpa using hf'
   rw[hf j f hf',ah (by rw[hl];exact(aD.1 hf').1)];exact⟨_,rfl⟩) j hj
  exact⟨v,c,k,by simpa using q.1,q.2⟩
 .cases he
 .split at he
  .rename_i k _ _;obtain⟨v,c,rfl,ci⟩:=If he h;obtain rfl:j=0:=by simpa using hj
   exact⟨v,c,k,rfl,rfl,ci⟩
  .cases he
theorem Wz (he:Wu P e ks=true):(∀ m u,P.underlying e≠some (.array m u))/\P.cellsOf e=ks.length:=by unfold Wu at he;obtain⟨h1,he⟩:=Bool.and_eq_true_iff.1 he;refine⟨fun m u q=>?_,Nat.eq_of_beq_eq_true h1⟩;rw[q] at he;cases he
instance : Inhabited V:=⟨.nilp⟩
theorem oW (k0:0<ks.length)(u:P.underlying t=some (.slice e))(he:Wu P e ks=true){b0:Nat}(hw:Cell.okWide P W .any b0 t v){x:DataW H×List MemPlace}
  (h:DataW.trod enc P W 0 (fun _=>true) true fuel t [v]=some x):∃ S l,SIn W v S l/\Jo ks S:=by
 obtain⟨na,ce⟩:=Wz he;have hsl:v=.slice none 0 0\/∃ B o n c,v=.slice (some ⟨B,o,none⟩) n c/\W.has P .any b0 ⟨B,o,none⟩ e c:=by
  unfold Cell.okWide at hw;rw[u] at hw;cases v<;>simp only[Cell.ok,u] at hw;rename_i a n c;cases a with
  |none=>
   cases n with
   |zero=>
    cases c with
    |zero=>exact .inl rfl
    |succ c=>exact hw.elim
   |succ n=>exact hw.elim
  |some a=>obtain⟨B,o,sp⟩:=a;have:sp=none:=hw.2.2.2.1;subst this;exact .inr ⟨B,o,n,c,rfl,hw.2.2⟩
 rcases hsl with rfl|⟨B,o,n,c,rfl,_,_,row,cells,sh,lies⟩;·exact⟨none,none,.isNil,⟨fun _ _ _ h=>nomatch h⟩⟩
 have hb:∃ cs el fr,W.heap[B]?=some (.cells cs el fr)/\cells=cs.size:=by
  have sh:W.shape? B=some (row,cells):=sh;unfold World.shape? at sh;split at sh;·rename_i cs el fr q;cases sh;exact⟨cs,_,fr,q,rfl⟩
  .cases sh
 obtain⟨cs,el,fr,hB,rfl⟩:=hb;have ho:o<=cs.size:=bF (NL na lies) (Nat.div_mul_le_self _ _);rcases Deep.open_slice u h with⟨q,_⟩|⟨a,len,cap,m,fu,D,Pl,q,_,hl,_,hm,_,hx⟩;·cases q
 simp only[eB,Value.slice.injEq,bW,and_true] at q;obtain⟨rfl,rfl,rfl⟩:=q;simp only[if_true] at hm;subst hm;obtain⟨f,hf⟩:=Deep.choose_lt (α:=V) (n:=ks.length * n) (p:=fun j v=>∃ x k,cs[o+j]?=some x/\ks[j % ks.length]?=some k/\Cin k x v) fun j hj=>by have hi:j / ks.length<n:=Nat.div_lt_of_lt_mul hj;have hr:j % ks.length<ks.length:=dD _ k0;obtain⟨cs',g1,g2⟩:=hx (j / ks.length) (by omega);obtain⟨_,_,g3⟩:=World.cells?_some g1;obtain⟨v,y,k,e1,e2,ci⟩:=Wy he g2 _ hr;refine⟨v,y,k,?_,e2,ci⟩;have g3:=g3 (j % ks.length) (by rw[ce];exact hr);rw[e1,Dj,Dj,ce,bA,aY,dH] at g3;unfold World.cell? at g3;simp only[hB] at g3;simpa using g3
 have ll:((List.range (ks.length * n)).map f).length=ks.length * n:=by simp
 have lg:∀ (j:Nat) (v:V),((List.range (ks.length * n)).map f)[j]?=some v->j<ks.length * n/\v=f j:=fun j v q=>by have hj:=(ai.1 q).1;rw[ll] at hj;simp[hj] at q;exact⟨hj,q.symm⟩
 refine⟨some ((List.range (ks.length * n)).map f,n,_),some (B,o,cs.size),.isSl hB ?_ fun j v q=>?_,⟨fun L n' c' q=>?_⟩⟩
 .rw[ll];by_cases z:ks.length * n=0;·omega
  .obtain⟨y,k,q,_⟩:=hf (ks.length * n - 1) (by omega);have:=(aD.1 q).1;omega
 .obtain⟨hj,rfl⟩:=lg j v q;obtain⟨y,k,q1,_,ci⟩:=hf j hj;exact⟨y,q1,ci.one,ci.rel⟩
 .cases q;refine⟨ll,hl,fun j hj=>?_⟩;rw[ll] at hj;obtain⟨y,k,_,q2,ci⟩:=hf j hj;exact⟨f j,k,by simp[hj],q2,ci.kv⟩
theorem Lt {k:IntKind}(hu:P.underlying t=some (.int k))(h:Cell.okWide P W .any base t v):∃ n,v=.int k n/\k.min<=n/\n<=k.max:=by unfold Cell.okWide at h;rw[hu] at h;cases v<;>simp[Cell.ok,hu] at h;rename_i k' n;obtain⟨h1,h2⟩:=h;subst h1;exact⟨n,rfl,h2.1,h2.2⟩
theorem QE {l:List Value}(h:l.length=10):∃ a b c d e f g i j k,l=[a,b,c,d,e,f,g,i,j,k]:=by
 match l,h with
 |[a,b,c,d,e,f,g,i,j,k],_=>exact⟨a,b,c,d,e,f,g,i,j,k,rfl⟩
end
structure Uh (W:World):Prop where
 letters:∃ cs el fr,W.heap[2]?=some (.cells cs el fr)/\cs.size=4/\∀ (i:Nat) (v:V),Gd[i]?=some v->∃ x,cs[i]?=some x/\Go.Ev.one x=true/\∀ Y,Rel Y v x
 words:∃ cs el fr,W.heap[0]?=some (.cells cs el fr)/\cs.size=12/\∀ (i:Nat) (v:V),fY[i]?=some v->∃ x,cs[i]?=some x/\Go.Ev.one x=true/\∀ Y,Rel Y v x
def room (W:World)(b:Nat):Nat:=match W.heap[b]? with
 |some (.cells cs _ _)=>cs.size
 |_=>0
theorem BA {L:List V}{cs:Array Value}{o:Nat}(hc:∀ (i:Nat) (v:V),L[i]?=some v->∃ x,cs[o+i]?=some x/\Go.Ev.one x=true/\∀ Y,Rel Y v x):ED Y L.length L .leaf cs o:=by
 refine⟨fun i x hi hx=>?_,fun i v x hv hx=>?_⟩;·obtain⟨y,q1,q2,_⟩:=hc i _ (ah hi);rw[hx] at q1;cases q1;exact q2
 .obtain⟨y,q1,_,q3⟩:=hc i v (oM hv);rw[hx] at q1;cases q1;exact q3 Y
theorem SIn.live {S:SD}{l:Option (Nat×Nat×Nat)}(h:SIn W v S l){p:List V×Nat×Nat}(hS:S=some p)(Y:Ren):∃ L c,l=some L/\W.heap[L.1]?=some c/\jD Y (.ro none p.1.length p.1 .leaf) L c:=by
 cases h with
 |isNil=>cases hS
 |isSl hw hle hc=>cases hS;exact⟨_,_,rfl,hw,_,_,_,rfl,rfl,hle,fun _ h=>(nomatch h),BA hc⟩
theorem SIn.rel {S:SD}{l:Option (Nat×Nat×Nat)}(h:SIn W v S l){b:Nat}(hb:Y b=l):Rel Y (sdV b S) v:=by
 cases h with
 |isNil=>exact .nils
 |isSl hw hle hc=>exact .sliceK (o:=0) hb
theorem QF (hH:Uh W){d:Acc}{v0 v1 v2 v3 v4:Value}{l0 l1 l2 l3 l4:Option (Nat×Nat×Nat)}(h0:SIn W v0 d.o l0)(h1:SIn W v1 d.r l1)(h2:SIn W v2 d.t l2)(h3:SIn W v3 d.l l3)(h4:SIn W v4 d.k l4):
  ∃ Y,Sim Y (d.mem fY) W/\Y 1000=l0/\Y 1001=l1/\Y 1002=l2/\Y 1003=l3/\Y 1004=l4:=by
 let f:Nat->Option (Nat×Nat×Nat):=fun b=>if b<1000 then some (b,0,room W b) else if b=1000 then l0 else if b=1001 then l1 else if b=1002 then l2 else if b=1003 then l3 else if b=1004 then l4 else none
 let Y:Ren:=⟨f,fun _ _=>False⟩;have lo:∀ b,b<1000->Y b=some (b,0,room W b):=fun b hb=>by show f b=_;simp only[f,hb,if_true]
 have rm:∀ {b:Nat} {cs:Array Value} {el:TypeId} {fr:Nat×Nat},W.heap[b]?=some (.cells cs el fr)->room W b=cs.size:=fun {b cs el fr} q=>by unfold room;rw[q]
 have noG:∀ {b:Nat} {os:List O},¬ (d.mem fY).tr.get b=some (.ghost os):=fun {b os} q=>by rcases sD q with⟨_,e⟩|⟨_,e⟩|⟨_,_,_,_,e⟩<;>cases e
 refine⟨Y,⟨fun g hg=>⟨_,lo g hg⟩,fun b L hb=>?_,fun b x hb=>?_,fun b b' x x' B hb hb' hq _ _=>?_,fun b x B _ h=>h.elim,fun b os L hb _=>absurd hb noG⟩,?_,?_,?_,?_,?_⟩
 .show b<1005;have hb:f b=some L:=hb;simp only[f] at hb;by_cases q:b<1005;·exact q
  .rw[if_neg (by omega),if_neg (by omega),if_neg (by omega),if_neg (by omega),if_neg (by omega),if_neg (by omega)] at hb;cases hb
 .rcases sD hb with⟨rfl,rfl⟩|⟨rfl,rfl⟩|⟨S,p,hS,e,rfl⟩;·obtain⟨cs,el,fr,q1,q2,q3⟩:=hH.words;refine⟨_,_,lo 0 (by decide),q1,cs,el,fr,rfl,(rm q1).symm,?_,fun e' _=>⟨rfl,by rw[rm q1,q2];rfl⟩,BA fun i v hv=>by rw[aI];exact q3 i v hv⟩;rw[rm q1,q2];exact aF 12
  .obtain⟨cs,el,fr,q1,q2,q3⟩:=hH.letters;refine⟨_,_,lo 2 (by decide),q1,cs,el,fr,rfl,(rm q1).symm,?_,fun e' _=>⟨rfl,by rw[rm q1,q2]⟩,BA (L:=Gd) fun i v hv=>by rw[aI];exact q3 i v hv⟩;rw[rm q1,q2];exact aF 4
  .rcases hS with⟨rfl,rfl⟩|⟨rfl,rfl⟩|⟨rfl,rfl⟩|⟨rfl,rfl⟩|⟨rfl,rfl⟩;·exact h0.live e Y
   .exact h1.live e Y
   .exact h2.live e Y
   .exact h3.live e Y
   .exact h4.live e Y
 .rw[yl hb,yl hb'] at hq;rcases hq with hq|hq<;>cases hq
 all_goals rfl
theorem zap {d:Acc}(ok:d.Ok)(hS:Sim Y (d.mem fY) W){vc va:Value}(hc:Rel Y d.qI vc)(ha:Rel Y d.kh va)(k:Nat):
  CallsIn Fence.wide k Tryz.prog 3 #[vc,va] W (fun e w'=>e=.returned (.bool true)/\Below W.heap.size W w'):=by
 obtain⟨h1,q⟩:=R7 ok ⟨Y,W,[va,vc],hS,.cons ha (.cons hc .nil)⟩;have g3:∃ fn c,S.G0.funcs.get 3=some fn/\fn.body=some c:=by
  have:(match S.G0.funcs.get 3 with
   |some fn=>fn.body.isSome
   |none=>false)=true:=by kernel_rfl
  split at this;·rename_i fn h;obtain⟨c,hc⟩:=bu.1 this;exact⟨fn,c,h,hc⟩
  .cases this
 obtain⟨fn,c,hf,hb⟩:=g3;obtain⟨g1,g2⟩:=(S.jl (fun _ _ _=>none)).1.funcs 3 fn hf;have:=q _ Y W ⟨#[vc,va],.cons hc (.cons ha .nil),rfl⟩ hS;rw[fE g1 g2 hb] at this;refine(this k).mono fun e w' r=>?_;obtain⟨x,rfl,Y',_,s2,s3⟩:=r;cases s3;exact⟨rfl,s2.os,s2.tape,s2.output,s2.size,fun B hB=>s2.frame B hB fun b o q1 q2=>by rw[yl q1] at q2;cases q2⟩
def Uj (P:Program)(t:TypeId)(i:Nat)(u:TypeId):Bool:=match P.underlying t with
 |some (.struct fs)=>match fs[i]? with
  |some f=>Nat.beq f.type u&&(Nat.beq f.offset i&&Nat.beq (P.cellsOf u) 1)
  |none=>false
 |_=>false
section
variable {H:Type}{enc:TypeId×Value->H}{P:Program}{W:World}{base:Nat}{spare:Nat->Bool}{held:Bool}
theorem zJ {u:TypeId}{i:Nat}(hf:Uj P t i u=true){x:DataW H×List MemPlace}(h:DataW.trod enc P W base spare held fuel t cs=some x):∃ n y,DataW.trod enc P W base spare held n u ((cs.drop i).take 1)=some y:=by
 unfold Uj at hf;split at hf
 .rename_i fs q;obtain⟨xs,n,_,_,_,hl,hx⟩:=DataW.trod_struct q h;split at hf;·rename_i f hf';simp only[ae] at hf;obtain⟨a,b,c⟩:=hf;have a:=Nat.eq_of_beq_eq_true a;have b:=Nat.eq_of_beq_eq_true b;have c:=Nat.eq_of_beq_eq_true c;have:=hx i f hf';rw[a,b,c,ah (by rw[hl];exact(aD.1 hf').1)] at this;exact⟨n,_,this⟩
  .cases hf
 .cases hf
theorem tR {ts:List TypeId}(hs:(match P.underlying t with
  |some (.struct _)=>true
  |_=>false)=true) (ht:P.cellTypes P.depth t=some ts) (hn:P.cellsOf t=10) (h:Value.okWide P W .any base t v):
  ∃ c0 c1 c2 c3 c4 c5 c6 c7 c8 c9,v=.agg #[c0,c1,c2,c3,c4,c5,c6,c7,c8,c9]/\∀ (i:Nat) (c:Value),[c0,c1,c2,c3,c4,c5,c6,c7,c8,c9][i]?=some c->∃ u,ts[i % ts.length]?=some u/\Cell.okWide P W .any base u c:=by
 unfold Value.okWide at h;split at hs
 .rename_i fs q;rw[q] at h;obtain⟨cs,rfl,h1,ts',h2,_,h3⟩:=h;rw[ht] at h2;cases h2;rw[hn] at h1;obtain⟨c0,c1,c2,c3,c4,c5,c6,c7,c8,c9,e⟩:=QE (l:=cs.toList) (by simpa using h1);obtain rfl:cs = #[c0,c1,c2,c3,c4,c5,c6,c7,c8,c9]:=by rw[<- aP (xs:=cs),e]
  exact⟨_,_,_,_,_,_,_,_,_,_,rfl,fun i c hc=>h3 i c (by simpa using hc)⟩
 .cases hs
theorem jP (hu:P.underlying t=some (.int .i64)){o:Option TypeId}(ho:o=some t)(h:∃ u,o=some u/\Cell.okWide P W .any base u v):∃ z,v=.int .i64 z/\I64 z:=by obtain⟨u,e,h⟩:=h;rw[ho] at e;cases e;obtain⟨n,e,a,b⟩:=Lt hu h;exact⟨n,e,by show rE .i64<=n;rw[By];exact a,by show n<=pW .i64;rw[Bz];exact b⟩
theorem Ig {L:List V}{cs:Array Value}(hn:L.length=n)(h:fH Y L cs.toList)(ho:∀ c,c∈cs.toList->Go.Ev.one c=true):Rel Y (.agg n L .leaf) (.agg cs):=by subst hn;refine .agg (by simpa using h.1) (fun i x hx=>ho x (aC (by simpa using hx))) fun i v x hv hx=>h.2 i v x (oM hv) (by simpa using hx)
theorem SIn.one {v:Value}{S:SD}{l:Option (Nat×Nat×Nat)}(h:SIn W v S l):Go.Ev.one v=true:=by cases h<;>rfl
theorem pV {o:Option TypeId}(ho:o=some t)(h:∃ u,o=some u/\Cell.okWide P W .any base u v):Cell.okWide P W .any base t v:=by obtain⟨u,e,h⟩:=h;rw[ho] at e;cases e;exact h
end
theorem Tm {H:Type}{enc:TypeId×Value->H}{b0:Nat}{v0 v1:Value}{d1:DataW H}{p1:List MemPlace}(hH:Uh W)(w0:Value.okWide Tryz.prog W .any b0 24 v0)(w1:Value.okWide Tryz.prog W .any b0 33 v1)
  (t1:DataW.Trod enc Tryz.prog W 0 (fun _=>true) true 33 v1 d1 p1):∃ d:Acc,d.Ok/\∃ Y,Sim Y (d.mem fY) W/\Rel Y d.qI v0/\Rel Y d.kh v1:=by
 have u3:Tryz.prog.underlying 3=some (.int .i64):=by kernel_rfl
 have u2:Tryz.prog.underlying 2=some (.int .i64):=by kernel_rfl
 have u22:Tryz.prog.underlying 22=some (.int .u32):=by kernel_rfl
 obtain⟨c0,c1,c2,c3,c4,c5,c6,c7,c8,c9,rfl,hc⟩:=tR (ts:=[3,3,3,3,3,3,3,2,2,22]) (by kernel_rfl) (by kernel_rfl) (by kernel_rfl) w0;obtain⟨z0,rfl,i0⟩:=jP u3 rfl (hc 0 _ rfl);obtain⟨z1,rfl,i1⟩:=jP u3 rfl (hc 1 _ rfl);obtain⟨z2,rfl,i2⟩:=jP u3 rfl (hc 2 _ rfl);obtain⟨z3,rfl,i3⟩:=jP u3 rfl (hc 3 _ rfl);obtain⟨z4,rfl,i4⟩:=jP u3 rfl (hc 4 _ rfl);obtain⟨z5,rfl,i5⟩:=jP u3 rfl (hc 5 _ rfl);obtain⟨z6,rfl,i6⟩:=jP u3 rfl (hc 6 _ rfl);obtain⟨z7,rfl,i7⟩:=jP u2 rfl (hc 7 _ rfl);obtain⟨z8,rfl,i8⟩:=jP u2 rfl (hc 8 _ rfl);obtain⟨z9,rfl,u0,u1⟩:=Lt u22 (pV rfl (hc 9 _ rfl));obtain⟨a0,a1,a2,a3,a4,a5,a6,a7,a8,a9,rfl,ha⟩:=tR (ts:=[25,26,27,28,29,3,3,3,3,3]) (by kernel_rfl) (by kernel_rfl) (by kernel_rfl) w1;obtain⟨y0,rfl,j0⟩:=jP u3 rfl (ha 5 _ rfl);obtain⟨y1,rfl,j1⟩:=jP u3 rfl (ha 6 _ rfl);obtain⟨y2,rfl,j2⟩:=jP u3 rfl (ha 7 _ rfl);obtain⟨y3,rfl,j3⟩:=jP u3 rfl (ha 8 _ rfl);obtain⟨y4,rfl,j4⟩:=jP u3 rfl (ha 9 _ rfl);obtain⟨fu,t1⟩:=t1;have t1:DataW.trod enc Tryz.prog W 0 (fun _=>true) true fu 33 [a0,a1,a2,a3,a4,.int .i64 y0,.int .i64 y1,.int .i64 y2,.int .i64 y3,.int .i64 y4]=some (d1,p1):=t1;obtain⟨_,_,f0⟩:=zJ (i:=0) (u:=25) (by kernel_rfl) t1;obtain⟨_,_,f1⟩:=zJ (i:=1) (u:=26) (by kernel_rfl) t1;obtain⟨_,_,f2⟩:=zJ (i:=2) (u:=27) (by kernel_rfl) t1;obtain⟨_,_,f3⟩:=zJ (i:=3) (u:=28) (by kernel_rfl) t1;obtain⟨_,_,f4⟩:=zJ (i:=4) (u:=29) (by kernel_rfl) t1;obtain⟨S0,l0,s0,k0⟩:=oW (ks:=Au) (by decide) (e:=65) (by kernel_rfl) (by kernel_rfl) (pV rfl (ha 0 _ rfl)) f0;obtain⟨S1,l1,s1,k1⟩:=oW (ks:=D3) (by decide) (e:=49) (by kernel_rfl) (by kernel_rfl) (pV rfl (ha 1 _ rfl)) f1;obtain⟨S2,l2,s2,k2⟩:=oW (ks:=[i64]) (by decide) (e:=3) (by kernel_rfl) (by kernel_rfl) (pV rfl (ha 2 _ rfl)) f2;obtain⟨S3,l3,s3,k3⟩:=oW (ks:=oX) (by decide) (e:=53) (by kernel_rfl) (by kernel_rfl) (pV rfl (ha 3 _ rfl)) f3;obtain⟨S4,l4,s4,k4⟩:=oW (ks:=yA) (by decide) (e:=88) (by kernel_rfl) (by kernel_rfl) (pV rfl (ha 4 _ rfl)) f4;obtain⟨d,hd⟩:∃ d:Acc,d=⟨S0,S1,S2,S3,S4,[y0,y1,y2,y3,y4],[z0,z1,z2,z3,z4,z5,z6,z7,z8],z9⟩:=⟨_,rfl⟩;have dk:d.Ok:=by
  rw[hd];refine⟨k0,k1,k2,k3,k4,rfl,fun z h=>?_,rfl,fun z h=>?_,by show rE .u32<=z9;rw[By];exact u0,by show z9<=pW .u32;rw[Bz];exact u1⟩;·simp only[aq,aA,or_false] at h;rcases h with rfl|rfl|rfl|rfl|rfl<;>assumption
  .simp only[aq,aA,or_false] at h;rcases h with rfl|rfl|rfl|rfl|rfl|rfl|rfl|rfl|rfl<;>assumption
 obtain⟨Y,hS,r0,r1,r2,r3,r4⟩:=QF (d:=d) hH (by rw[hd];exact s0) (by rw[hd];exact s1) (by rw[hd];exact s2) (by rw[hd];exact s3) (by rw[hd];exact s4);refine⟨d,dk,Y,hS,?_,?_⟩
 .rw[hd];refine Ig rfl ?_ fun c hc=>?_;·exact .cons (.int _ _) (.cons (.int _ _) (.cons (.int _ _) (.cons (.int _ _) (.cons (.int _ _) (.cons (.int _ _) (.cons (.int _ _) (.cons (.int _ _) (.cons (.int _ _) (.cons (.int _ _) .nil)))))))))
  .simp only[aq,aA,or_false] at hc;rcases hc with rfl|rfl|rfl|rfl|rfl|rfl|rfl|rfl|rfl|rfl<;>rfl
 .rw[hd];refine Ig rfl ?_ fun c hc=>?_;·exact .cons (s0.rel r0) (.cons (s1.rel r1) (.cons (s2.rel r2) (.cons (s3.rel r3) (.cons (s4.rel r4) (.cons (.int _ _) (.cons (.int _ _) (.cons (.int _ _) (.cons (.int _ _) (.cons (.int _ _) .nil)))))))))
  .simp only[aq,aA,or_false] at hc;rcases hc with rfl|rfl|rfl|rfl|rfl|rfl|rfl|rfl|rfl|rfl
   .exact s0.one
   .exact s1.one
   .exact s2.one
   .exact s3.one
   .exact s4.one
   all_goals rfl
end Go.Proofs.YtboaighhnghpdaaGreatDoor

/- Records of calls within 'works', each checked by one computation. -/
import Derived.Test.YtboaighhnghpdaaGreatDoorH
import Derived.Lib.Join
import Derived.CallsIn
set_option linter.unusedVariables false
set_option linter.unusedSimpArgs false
set_option maxHeartbeats 1000000
namespace Go.Proofs.YtboaighhnghpdaaGreatDoor
open Go Go.Ev Go.RowKit
set_option maxRecDepth 100000
noncomputable section
def AQ (sep:List UInt8):List (List UInt8)->List UInt8
 |[]=>[]
 |s :: []=>s
 |s :: t :: l=>s++(sep++AQ sep (t :: l))
def JD:List V->Option (List (List UInt8))
 |[]=>some []
 |.str s :: l=>match JD l with
  |some r=>some (s :: r)
  |none=>none
 |_=>none
def Se (n:Nat):Cap->Bool
 |.known c=>Nat.ble n c
 |.atl m _=>Nat.ble n m
def Dm (args:List V)(h:H):Option V:=
 match args with
 |[.slice b o n c,.str sep]=>match eW h b o n with
  |some l=>match JD l with
   |some ss=>match Nat.ble 1 n&&Nat.ble n 1000&&Se n c&&Nat.ble (AQ sep ss).length 1000000 with
    |true=>some (.str (AQ sep ss))
    |false=>none
   |none=>none
  |none=>none
 |_=>none
def JE (f:FuncId)(args:List V)(h:H):Option (V×H):=match Nat.beq f 24 with
 |true=>match Dm args h with
  |some v=>some (v,h)
  |none=>none
 |false=>none
end
theorem uK (sep:List UInt8):∀ ws,AQ sep ws=Lib.join ws sep
 |[]=>(Lib.join_nil sep).symm
 |[s]=>(Lib.join_one s sep).symm
 |s :: t :: l=>by have:=uK sep (t :: l);rw[Lib.join_cons] at this ⊢;simp only[AQ] at this ⊢;rw[this];simp[Lib.joinTail]
def yt:Prop:=∀ (bk o c:Nat) (xs:List ByteArray) (sep:ByteArray) (w:World),
 (∀ (j:Nat) x,xs[j]?=some x->w.cell? ⟨bk,o+j,none⟩=some (.string x))->bk<w.heap.size->xs.length<=140737488355328->xs.length<=c ->
 (Lib.join (xs.map (·.data.toList)) sep.data.toList).length<=140737488355328 ->
 Calls Tryz.prog 24 #[.slice (some ⟨bk,o,none⟩) xs.length c,.string sep] w fun e w'=>e=.returned (.string ⟨(Lib.join (xs.map (·.data.toList)) sep.data.toList).toArray⟩)/\Below w.heap.size w w'
theorem CP:∀ {l:List V} {ss:List (List UInt8)},JD l=some ss->l=ss.map V.str
 |[],ss,h=>by cases h;rfl
 |.str s :: l,ss,h=>by
  simp only[JD] at h;split at h;·rename_i r hr;cases h;rw[CP hr];rfl
  .cases h
theorem yu {Y:Ren}{n:Nat}{pat:List V}{tr:T V}{cs:Array Value}{d o k:Nat}{ss:List (List UInt8)}(hg:fC n pat tr o k=some (ss.map V.str))(hc:ED Y n pat tr cs d)(hs:d+n<=cs.size)(j:Nat)(s:List UInt8)(hj:ss[j]?=some s):cs[d+o+j]?=some (.string ⟨s.toArray⟩):=by have h1:=(eP hg).2 j (.str s) (by rw[aL,hj];rfl);have hlt:=eT h1;have h2:cs[d+(o+j)]?=some (cs[d+(o+j)]'(by omega)):=bq (by omega);have h3:=hc.2 _ _ _ h1 h2;rw[bA,h2];generalize cs[d+(o+j)]'(by omega)=q at h3;cases h3;rfl
theorem JF (hJ:yt){eqs:List TypeId}{rows:List (FuncId×Row)}:pG Tryz.prog (mkG Tryz.prog eqs rows JE):=by
 intro f args h v h' hv Y cargs w ha hS m;replace hv:JE f args h=some (v,h'):=hv;unfold JE at hv;split at hv;case h_2=>cases hv
 rename_i q0;have q0:f=24:=Nat.eq_of_beq_eq_true q0;subst q0;split at hv;case h_2=>cases hv
 rename_i v' hv';cases hv;unfold Dm at hv';split at hv';case h_2=>cases hv'
 rename_i b o n c sp;split at hv';case h_2=>cases hv'
 rename_i l hl;split at hv';case h_2=>cases hv'
 rename_i ss hss;split at hv';case h_2=>cases hv'
 rename_i hq;cases hv';simp only[ae] at hq;obtain⟨⟨⟨h1,h2⟩,h3⟩,h4⟩:=hq;have h1:=az h1;have h2:=az h2;have h4:=az h4;have hls:=CP hss;subst hls;obtain⟨c1,cs1,q1,r1,ha⟩:=ha.zaa;obtain⟨c2,cs2,q2,r2,ha⟩:=ha.zaa;have q3:=ha.of_nil;have hc:cargs = #[c1,c2]:=by rw[<- aP (xs:=cargs),q1,q2,q3]
 subst hc;cases r2;have row:∃ B d k,Y b=some (B,d,k)/\B<w.heap.size/\ss.length=n/\∀ (j:Nat) s,ss[j]?=some s->w.cell? ⟨B,d+o+j,none⟩=some (.string ⟨s.toArray⟩):=by
  unfold eW at hl;split at hl;·rename_i e0 n0 pat tr hb;obtain⟨L,ob,l1,l2,l3⟩:=hS.live b _ hb;obtain⟨cs,el,lo,hi,g1,g2,g3,g4,g5,g6⟩:=l3;subst g1;refine⟨L.1,L.2.1,L.2.2,l1,(aD.1 l2).1,by have:=(eP hl).1;simpa using this,fun j s hj=>?_⟩;unfold World.cell?;rw[l2];exact yu hl g6 (by omega) j s hj
  .rename_i e0 n0 pat tr hb;obtain⟨L,ob,l1,l2,l3⟩:=hS.live b _ hb;obtain⟨cs,el,fr,g1,g2,g3,g5,g6⟩:=l3;subst g1;refine⟨L.1,L.2.1,L.2.2,l1,(aD.1 l2).1,by have:=(eP hl).1;simpa using this,fun j s hj=>?_⟩;unfold World.cell?;rw[l2];exact yu hl g6 (by omega) j s hj
  .cases hl
 obtain⟨B,d,z,w1,w2,w3,w4⟩:=row;let bs:List ByteArray:=ss.map fun s=>⟨s.toArray⟩;have hbl:bs.length=n:=by simp only[bs,cM,w3]
 have hbm:bs.map (·.data.toList)=ss:=by simp[bs,dr,Function.comp_def]
 have e0:∀ c:List UInt8,(⟨c.toArray⟩:ByteArray).data.toList=c:=fun c=>by simp
 have ht:AQ sp ss=Lib.join ss sp:=uK sp _;have hcells:∀ (j:Nat) x,bs[j]?=some x->w.cell? ⟨B,d+o+j,none⟩=some (.string x):=fun j x hx=>by simp only[bs,aL,cH] at hx;obtain⟨s,hs,rfl⟩:=hx;exact w4 j s hs
 have fin:∀ cap:Nat,n<=cap->CallsIn Fence.wide m Tryz.prog 24 #[.slice (some ⟨B,d+o,none⟩) n cap,.string ⟨sp.toArray⟩] w (Ret (Post Y h w (.str (AQ sp ss)) h)):=fun cap hcap=>by have key:=hJ B (d+o) cap bs ⟨sp.toArray⟩ w hcells w2 (by omega) (by omega) (by rw[hbm,e0,<- ht];omega);rw[hbm,e0,<- ht,hbl] at key;refine(callsIn_wide.2 key).mono fun en w' ⟨h1,h2⟩=>⟨_,h1,Y,?_⟩;obtain⟨b1,b2⟩:=Es hS h2;exact⟨b1,b2,.str _⟩
 cases r1 with
 |sliceK a=>rw[w1] at a;cases a;exact fin _ (az h3)
 |sliceA a hm hz=>rw[w1] at a;cases a;have:=az h3;exact fin _ (by omega)
 |sliceZ a=>omega
end Go.Proofs.YtboaighhnghpdaaGreatDoor
namespace Go.Proofs.YtboaighhnghpdaaGreatDoor
open Go Go.Ev Go.Ae Go.RowKit
set_option maxRecDepth 100000
structure Sh:Prop where
 j:yt
 s:kY Tryz.prog 27 55 3
 u:Tryz.prog.underlying 3=some (.int .i64)
noncomputable def GR (t:T Rec):Γ:=mkG Tryz.prog S.eqs S.rows (QA (QA JE (tN 27 55 3)) (Q8 t))
theorem Sf (sh:Sh){t:T Rec}(ht:ja Tryz.prog t):pG Tryz.prog (GR t):=by refine Ia (Ia (JF sh.j) ?_) (J6 ht);intro f args h v h' hr Y cargs w ha hS n;exact vo sh.u sh.s hr ha hS n
theorem qt (sh:Sh){t:T Rec}(ht:ja Tryz.prog t){r:Rec}(h:r.ok (evT (GR t) 100000 r.f r.args r.start)=true):Snd Tryz.prog r:=fun _ _ _ hh _ _ _ ha hS n=>Rec.sound (S.jl _).1 (S.jl _).2 (Sf sh ht) h hh ha hS n
noncomputable def r0:Rec:=⟨30,[.agg 10 [.slice 1015 0 4 (.known 4),.slice 1008 0 4 (.known 4),.slice 1009 0 4 (.known 4),.slice 1011 0 1 (.known 1),.nils,.int .i64 (.ofNat 1),.int .i64 (.ofNat 0),.int .i64 (.ofNat 0),.int .i64 (.ofNat 1),.int .i64 (.ofNat 0)] .leaf,.agg 10 [.int .i64 (.ofNat 4),.int .i64 (.ofNat 1),.int .i64 (.ofNat 1),.int .i64 (.ofNat 1),.int .i64 (.ofNat 1),.int .i64 (.ofNat 2),.int .i64 (.ofNat 1),.int .i64 (.ofNat 10),.int .i64 (.ofNat 20),.int .u32 (.ofNat 1)] .leaf],[(1015,.cells (some 65) 24 [.int .i64 (.ofNat 10),.int .i64 (.ofNat 0),.int .i64 (.ofNat 0),.int .i64 (.ofNat 0),.int .i64 (.ofNat 0),.str []] (T.put (T.put (T.put (T.put (T.put (T.put .leaf 0 (some (.int .i64 (.ofNat 8)))) 2 (some (.int .i64 (.ofNat 1)))) 3 (some (.int .i64 (.ofNat 5)))) 5 (some (.str [97]))) 6 (some (.int .i64 (.ofNat 12)))) 12 (some (.int .i64 (.ofNat 14))))),(1008,.cells (some 49) 8 [.int .i64 (.ofNat 0)] (T.put .leaf 6 (some (.int .i64 (.ofNat 7))))),(1009,.cells (some 3) 4 [.int .i64 (.ofNat 0),.int .i64 (.ofNat 0),.int .i64 (.ofNat 1),.int .i64 (.ofNat 1)] .leaf),(1011,.cells (some 53) 6 [.int .i64 (.ofNat 1),.int .i64 (.ofNat 1),.int .i64 (.ofNat 0),.int .u32 (.ofNat 1)] (T.put .leaf 0 (some (.int .i64 (.ofNat 0))))),(0,.ro (some 0) 12 [.str [],.str [109,111,100,101,108],.str [111,110,99,101],.str [101,110,100,101,100],.str [115,116,101,97,100,121],.str [99,97,117,115,101,100],.str [117,115,101,100],.str [99,111,117,110,116,115],.str [113,117,111,116,97],.str [115,116,97,108,101],.str [108,101,97,107,115],.str [107,101,101,112,115]] .leaf),(2,.ro (some 0) 4 [.int .u8 (.ofNat 0),.int .u8 (.ofNat 111),.int .u8 (.ofNat 108),.int .u8 (.ofNat 102)] .leaf)],1157,.bool true,[],3038⟩
noncomputable def t0:T Rec:=.leaf
theorem Sg (sh:Sh):ja Tryz.prog t0:=ja.leaf
theorem Si:r0.ok (evT (GR t0) 100000 r0.f r0.args r0.start)=true:=by kernel_rfl
theorem PC (sh:Sh):Snd Tryz.prog r0:=qt sh (Sg sh) Si
noncomputable def r1:Rec:=⟨6,[.agg 10 [.int .i64 (.ofNat 4),.int .i64 (.ofNat 1),.int .i64 (.ofNat 1),.int .i64 (.ofNat 1),.int .i64 (.ofNat 1),.int .i64 (.ofNat 2),.int .i64 (.ofNat 1),.int .i64 (.ofNat 10),.int .i64 (.ofNat 20),.int .u32 (.ofNat 1)] .leaf,.agg 10 [.slice 1015 0 4 (.known 4),.slice 1008 0 4 (.known 4),.slice 1009 0 4 (.known 4),.slice 1011 0 1 (.known 1),.nils,.int .i64 (.ofNat 1),.int .i64 (.ofNat 0),.int .i64 (.ofNat 0),.int .i64 (.ofNat 1),.int .i64 (.ofNat 0)] .leaf],[(1015,.cells (some 65) 24 [.int .i64 (.ofNat 10),.int .i64 (.ofNat 0),.int .i64 (.ofNat 0),.int .i64 (.ofNat 0),.int .i64 (.ofNat 0),.str []] (T.put (T.put (T.put (T.put (T.put (T.put .leaf 0 (some (.int .i64 (.ofNat 8)))) 2 (some (.int .i64 (.ofNat 1)))) 3 (some (.int .i64 (.ofNat 5)))) 5 (some (.str [97]))) 6 (some (.int .i64 (.ofNat 12)))) 12 (some (.int .i64 (.ofNat 14))))),(1008,.cells (some 49) 8 [.int .i64 (.ofNat 0)] (T.put .leaf 6 (some (.int .i64 (.ofNat 7))))),(1009,.cells (some 3) 4 [.int .i64 (.ofNat 0),.int .i64 (.ofNat 0),.int .i64 (.ofNat 1),.int .i64 (.ofNat 1)] .leaf),(1011,.cells (some 53) 6 [.int .i64 (.ofNat 1),.int .i64 (.ofNat 1),.int .i64 (.ofNat 0),.int .u32 (.ofNat 1)] (T.put .leaf 0 (some (.int .i64 (.ofNat 0))))),(0,.ro (some 0) 12 [.str [],.str [109,111,100,101,108],.str [111,110,99,101],.str [101,110,100,101,100],.str [115,116,101,97,100,121],.str [99,97,117,115,101,100],.str [117,115,101,100],.str [99,111,117,110,116,115],.str [113,117,111,116,97],.str [115,116,97,108,101],.str [108,101,97,107,115],.str [107,101,101,112,115]] .leaf),(2,.ro (some 0) 4 [.int .u8 (.ofNat 0),.int .u8 (.ofNat 111),.int .u8 (.ofNat 108),.int .u8 (.ofNat 102)] .leaf)],1016,.tuple [.nils,.int .i64 (.ofNat 0)],[],3638⟩
noncomputable def t1:T Rec:=(T.put .leaf r0.n0 (some r0))
theorem Sj (sh:Sh):ja Tryz.prog t1:=(ja.leaf.put (PC sh))
theorem Sk:r1.ok (evT (GR t1) 100000 r1.f r1.args r1.start)=true:=by kernel_rfl
theorem PD (sh:Sh):Snd Tryz.prog r1:=qt sh (Sj sh) Sk
noncomputable def r2:Rec:=⟨30,[.agg 10 [.slice 3652 0 4 (.known 4),.slice 3645 0 4 (.known 4),.slice 3646 0 4 (.known 4),.slice 3648 0 1 (.known 1),.nils,.int .i64 (.ofNat 1),.int .i64 (.ofNat 0),.int .i64 (.ofNat 0),.int .i64 (.ofNat 1),.int .i64 (.ofNat 0)] .leaf,.agg 10 [.int .i64 (.ofNat 4),.int .i64 (.ofNat 1),.int .i64 (.ofNat 1),.int .i64 (.ofNat 1),.int .i64 (.ofNat 1),.int .i64 (.ofNat 2),.int .i64 (.ofNat 1),.int .i64 (.ofNat 10),.int .i64 (.ofNat 20),.int .u32 (.ofNat 1)] .leaf],[(3652,.cells (some 65) 24 [.int .i64 (.ofNat 10),.int .i64 (.ofNat 0),.int .i64 (.ofNat 0),.int .i64 (.ofNat 0),.int .i64 (.ofNat 0),.str []] (T.put (T.put (T.put (T.put (T.put (T.put .leaf 0 (some (.int .i64 (.ofNat 8)))) 2 (some (.int .i64 (.ofNat 1)))) 3 (some (.int .i64 (.ofNat 5)))) 5 (some (.str [97]))) 6 (some (.int .i64 (.ofNat 12)))) 12 (some (.int .i64 (.ofNat 14))))),(3645,.cells (some 49) 8 [.int .i64 (.ofNat 0)] .leaf),(3646,.cells (some 3) 4 [.int .i64 (.ofNat 0),.int .i64 (.ofNat 0),.int .i64 (.ofNat 1),.int .i64 (.ofNat 1)] .leaf),(3648,.cells (some 53) 6 [.int .i64 (.ofNat 1),.int .i64 (.ofNat 1),.int .i64 (.ofNat 0),.int .u32 (.ofNat 1)] (T.put .leaf 0 (some (.int .i64 (.ofNat 0))))),(0,.ro (some 0) 12 [.str [],.str [109,111,100,101,108],.str [111,110,99,101],.str [101,110,100,101,100],.str [115,116,101,97,100,121],.str [99,97,117,115,101,100],.str [117,115,101,100],.str [99,111,117,110,116,115],.str [113,117,111,116,97],.str [115,116,97,108,101],.str [108,101,97,107,115],.str [107,101,101,112,115]] .leaf),(2,.ro (some 0) 4 [.int .u8 (.ofNat 0),.int .u8 (.ofNat 111),.int .u8 (.ofNat 108),.int .u8 (.ofNat 102)] .leaf)],3804,.bool false,[],5675⟩
noncomputable def t2:T Rec:=.leaf
theorem Sl (sh:Sh):ja Tryz.prog t2:=ja.leaf
theorem Sm:r2.ok (evT (GR t2) 100000 r2.f r2.args r2.start)=true:=by kernel_rfl
theorem PE (sh:Sh):Snd Tryz.prog r2:=qt sh (Sl sh) Sm
noncomputable def r3:Rec:=⟨6,[.agg 10 [.int .i64 (.ofNat 4),.int .i64 (.ofNat 1),.int .i64 (.ofNat 1),.int .i64 (.ofNat 1),.int .i64 (.ofNat 1),.int .i64 (.ofNat 2),.int .i64 (.ofNat 1),.int .i64 (.ofNat 10),.int .i64 (.ofNat 20),.int .u32 (.ofNat 1)] .leaf,.agg 10 [.slice 3652 0 4 (.known 4),.slice 3645 0 4 (.known 4),.slice 3646 0 4 (.known 4),.slice 3648 0 1 (.known 1),.nils,.int .i64 (.ofNat 1),.int .i64 (.ofNat 0),.int .i64 (.ofNat 0),.int .i64 (.ofNat 1),.int .i64 (.ofNat 0)] .leaf],[(3652,.cells (some 65) 24 [.int .i64 (.ofNat 10),.int .i64 (.ofNat 0),.int .i64 (.ofNat 0),.int .i64 (.ofNat 0),.int .i64 (.ofNat 0),.str []] (T.put (T.put (T.put (T.put (T.put (T.put .leaf 0 (some (.int .i64 (.ofNat 8)))) 2 (some (.int .i64 (.ofNat 1)))) 3 (some (.int .i64 (.ofNat 5)))) 5 (some (.str [97]))) 6 (some (.int .i64 (.ofNat 12)))) 12 (some (.int .i64 (.ofNat 14))))),(3645,.cells (some 49) 8 [.int .i64 (.ofNat 0)] .leaf),(3646,.cells (some 3) 4 [.int .i64 (.ofNat 0),.int .i64 (.ofNat 0),.int .i64 (.ofNat 1),.int .i64 (.ofNat 1)] .leaf),(3648,.cells (some 53) 6 [.int .i64 (.ofNat 1),.int .i64 (.ofNat 1),.int .i64 (.ofNat 0),.int .u32 (.ofNat 1)] (T.put .leaf 0 (some (.int .i64 (.ofNat 0))))),(0,.ro (some 0) 12 [.str [],.str [109,111,100,101,108],.str [111,110,99,101],.str [101,110,100,101,100],.str [115,116,101,97,100,121],.str [99,97,117,115,101,100],.str [117,115,101,100],.str [99,111,117,110,116,115],.str [113,117,111,116,97],.str [115,116,97,108,101],.str [108,101,97,107,115],.str [107,101,101,112,115]] .leaf),(2,.ro (some 0) 4 [.int .u8 (.ofNat 0),.int .u8 (.ofNat 111),.int .u8 (.ofNat 108),.int .u8 (.ofNat 102)] .leaf)],3663,.tuple [.slice 6267 0 2 (.atl 2 1),.int .i64 (.ofNat 0)],[(6267,some (.cells (some 3) 2 [.int .i64 (.ofNat 1),.int .i64 (.ofNat 9)] .leaf))],6279⟩
noncomputable def t3:T Rec:=(T.put .leaf r2.n0 (some r2))
theorem Sn (sh:Sh):ja Tryz.prog t3:=(ja.leaf.put (PE sh))
theorem So:r3.ok (evT (GR t3) 100000 r3.f r3.args r3.start)=true:=by kernel_rfl
theorem PF (sh:Sh):Snd Tryz.prog r3:=qt sh (Sn sh) So
noncomputable def r4:Rec:=⟨30,[.agg 10 [.slice 6293 0 4 (.known 4),.slice 6286 0 4 (.known 4),.slice 6287 0 4 (.known 4),.slice 6305 0 2 (.atl 2 6),.nils,.int .i64 (.ofNat 1),.int .i64 (.ofNat 0),.int .i64 (.ofNat 0),.int .i64 (.ofNat 1),.int .i64 (.ofNat 0)] .leaf,.agg 10 [.int .i64 (.ofNat 4),.int .i64 (.ofNat 1),.int .i64 (.ofNat 1),.int .i64 (.ofNat 1),.int .i64 (.ofNat 1),.int .i64 (.ofNat 2),.int .i64 (.ofNat 1),.int .i64 (.ofNat 10),.int .i64 (.ofNat 20),.int .u32 (.ofNat 1)] .leaf],[(6293,.cells (some 65) 24 [.int .i64 (.ofNat 10),.int .i64 (.ofNat 0),.int .i64 (.ofNat 0),.int .i64 (.ofNat 0),.int .i64 (.ofNat 0),.str []] (T.put (T.put (T.put (T.put (T.put (T.put .leaf 0 (some (.int .i64 (.ofNat 8)))) 2 (some (.int .i64 (.ofNat 1)))) 3 (some (.int .i64 (.ofNat 5)))) 5 (some (.str [97]))) 6 (some (.int .i64 (.ofNat 12)))) 12 (some (.int .i64 (.ofNat 14))))),(6286,.cells (some 49) 8 [.int .i64 (.ofNat 0)] (T.put .leaf 6 (some (.int .i64 (.ofNat 7))))),(6287,.cells (some 3) 4 [.int .i64 (.ofNat 0),.int .i64 (.ofNat 0),.int .i64 (.ofNat 1),.int .i64 (.ofNat 2)] .leaf),(6305,.cells (some 53) 12 [.int .i64 (.ofNat 0),.int .i64 (.ofNat 1),.int .i64 (.ofNat 0),.int .u32 (.ofNat 1),.int .i64 (.ofNat 1),.int .i64 (.ofNat 1)] .leaf),(0,.ro (some 0) 12 [.str [],.str [109,111,100,101,108],.str [111,110,99,101],.str [101,110,100,101,100],.str [115,116,101,97,100,121],.str [99,97,117,115,101,100],.str [117,115,101,100],.str [99,111,117,110,116,115],.str [113,117,111,116,97],.str [115,116,97,108,101],.str [108,101,97,107,115],.str [107,101,101,112,115]] .leaf),(2,.ro (some 0) 4 [.int .u8 (.ofNat 0),.int .u8 (.ofNat 111),.int .u8 (.ofNat 108),.int .u8 (.ofNat 102)] .leaf)],6456,.bool false,[],8288⟩
noncomputable def t4:T Rec:=.leaf
theorem Sq (sh:Sh):ja Tryz.prog t4:=ja.leaf
theorem Sr:r4.ok (evT (GR t4) 100000 r4.f r4.args r4.start)=true:=by kernel_rfl
theorem PG (sh:Sh):Snd Tryz.prog r4:=qt sh (Sq sh) Sr
noncomputable def r5:Rec:=⟨6,[.agg 10 [.int .i64 (.ofNat 4),.int .i64 (.ofNat 1),.int .i64 (.ofNat 1),.int .i64 (.ofNat 1),.int .i64 (.ofNat 1),.int .i64 (.ofNat 2),.int .i64 (.ofNat 1),.int .i64 (.ofNat 10),.int .i64 (.ofNat 20),.int .u32 (.ofNat 1)] .leaf,.agg 10 [.slice 6293 0 4 (.known 4),.slice 6286 0 4 (.known 4),.slice 6287 0 4 (.known 4),.slice 6305 0 2 (.atl 2 6),.nils,.int .i64 (.ofNat 1),.int .i64 (.ofNat 0),.int .i64 (.ofNat 0),.int .i64 (.ofNat 1),.int .i64 (.ofNat 0)] .leaf],[(6293,.cells (some 65) 24 [.int .i64 (.ofNat 10),.int .i64 (.ofNat 0),.int .i64 (.ofNat 0),.int .i64 (.ofNat 0),.int .i64 (.ofNat 0),.str []] (T.put (T.put (T.put (T.put (T.put (T.put .leaf 0 (some (.int .i64 (.ofNat 8)))) 2 (some (.int .i64 (.ofNat 1)))) 3 (some (.int .i64 (.ofNat 5)))) 5 (some (.str [97]))) 6 (some (.int .i64 (.ofNat 12)))) 12 (some (.int .i64 (.ofNat 14))))),(6286,.cells (some 49) 8 [.int .i64 (.ofNat 0)] (T.put .leaf 6 (some (.int .i64 (.ofNat 7))))),(6287,.cells (some 3) 4 [.int .i64 (.ofNat 0),.int .i64 (.ofNat 0),.int .i64 (.ofNat 1),.int .i64 (.ofNat 2)] .leaf),(6305,.cells (some 53) 12 [.int .i64 (.ofNat 0),.int .i64 (.ofNat 1),.int .i64 (.ofNat 0),.int .u32 (.ofNat 1),.int .i64 (.ofNat 1),.int .i64 (.ofNat 1)] .leaf),(0,.ro (some 0) 12 [.str [],.str [109,111,100,101,108],.str [111,110,99,101],.str [101,110,100,101,100],.str [115,116,101,97,100,121],.str [99,97,117,115,101,100],.str [117,115,101,100],.str [99,111,117,110,116,115],.str [113,117,111,116,97],.str [115,116,97,108,101],.str [108,101,97,107,115],.str [107,101,101,112,115]] .leaf),(2,.ro (some 0) 4 [.int .u8 (.ofNat 0),.int .u8 (.ofNat 111),.int .u8 (.ofNat 108),.int .u8 (.ofNat 102)] .leaf)],6315,.tuple [.slice 8329 0 3 (.atl 3 1),.int .i64 (.ofNat 0)],[(8329,some (.cells (some 3) 3 [.int .i64 (.ofNat 1),.int .i64 (.ofNat 2),.int .i64 (.ofNat 3)] .leaf))],8956⟩
noncomputable def t5:T Rec:=(T.put .leaf r4.n0 (some r4))
theorem Ss (sh:Sh):ja Tryz.prog t5:=(ja.leaf.put (PG sh))
theorem Su:r5.ok (evT (GR t5) 100000 r5.f r5.args r5.start)=true:=by kernel_rfl
theorem PI (sh:Sh):Snd Tryz.prog r5:=qt sh (Ss sh) Su
noncomputable def r6:Rec:=⟨30,[.agg 10 [.slice 8970 0 4 (.known 4),.slice 8963 0 4 (.known 4),.slice 8964 0 4 (.known 4),.slice 8966 0 1 (.known 1),.nils,.int .i64 (.ofNat 1),.int .i64 (.ofNat 0),.int .i64 (.ofNat 0),.int .i64 (.ofNat 1),.int .i64 (.ofNat 0)] .leaf,.agg 10 [.int .i64 (.ofNat 4),.int .i64 (.ofNat 1),.int .i64 (.ofNat 1),.int .i64 (.ofNat 1),.int .i64 (.ofNat 1),.int .i64 (.ofNat 2),.int .i64 (.ofNat 1),.int .i64 (.ofNat 10),.int .i64 (.ofNat 20),.int .u32 (.ofNat 1)] .leaf],[(8970,.cells (some 65) 24 [.int .i64 (.ofNat 10),.int .i64 (.ofNat 0),.int .i64 (.ofNat 0),.int .i64 (.ofNat 0),.int .i64 (.ofNat 0),.str []] (T.put (T.put (T.put (T.put (T.put (T.put .leaf 0 (some (.int .i64 (.ofNat 8)))) 2 (some (.int .i64 (.ofNat 1)))) 3 (some (.int .i64 (.ofNat 5)))) 5 (some (.str [97]))) 6 (some (.int .i64 (.ofNat 12)))) 12 (some (.int .i64 (.ofNat 14))))),(8963,.cells (some 49) 8 [.int .i64 (.ofNat 0)] (T.put .leaf 6 (some (.int .i64 (.ofNat 7))))),(8964,.cells (some 3) 4 [.int .i64 (.ofNat 0),.int .i64 (.ofNat 0),.int .i64 (.ofNat 1),.int .i64 (.ofNat 1)] .leaf),(8966,.cells (some 53) 6 [.int .i64 (.ofNat 3),.int .i64 (.ofNat 1),.int .i64 (.ofNat 0),.int .u32 (.ofNat 1)] (T.put .leaf 0 (some (.int .i64 (.ofNat 0))))),(0,.ro (some 0) 12 [.str [],.str [109,111,100,101,108],.str [111,110,99,101],.str [101,110,100,101,100],.str [115,116,101,97,100,121],.str [99,97,117,115,101,100],.str [117,115,101,100],.str [99,111,117,110,116,115],.str [113,117,111,116,97],.str [115,116,97,108,101],.str [108,101,97,107,115],.str [107,101,101,112,115]] .leaf),(2,.ro (some 0) 4 [.int .u8 (.ofNat 0),.int .u8 (.ofNat 111),.int .u8 (.ofNat 108),.int .u8 (.ofNat 102)] .leaf)],9122,.bool false,[],10366⟩
noncomputable def t6:T Rec:=.leaf
theorem Sv (sh:Sh):ja Tryz.prog t6:=ja.leaf
theorem Sw:r6.ok (evT (GR t6) 100000 r6.f r6.args r6.start)=true:=by kernel_rfl
theorem PJ (sh:Sh):Snd Tryz.prog r6:=qt sh (Sv sh) Sw
noncomputable def r7:Rec:=⟨6,[.agg 10 [.int .i64 (.ofNat 4),.int .i64 (.ofNat 1),.int .i64 (.ofNat 1),.int .i64 (.ofNat 1),.int .i64 (.ofNat 1),.int .i64 (.ofNat 2),.int .i64 (.ofNat 1),.int .i64 (.ofNat 10),.int .i64 (.ofNat 20),.int .u32 (.ofNat 1)] .leaf,.agg 10 [.slice 8970 0 4 (.known 4),.slice 8963 0 4 (.known 4),.slice 8964 0 4 (.known 4),.slice 8966 0 1 (.known 1),.nils,.int .i64 (.ofNat 1),.int .i64 (.ofNat 0),.int .i64 (.ofNat 0),.int .i64 (.ofNat 1),.int .i64 (.ofNat 0)] .leaf],[(8970,.cells (some 65) 24 [.int .i64 (.ofNat 10),.int .i64 (.ofNat 0),.int .i64 (.ofNat 0),.int .i64 (.ofNat 0),.int .i64 (.ofNat 0),.str []] (T.put (T.put (T.put (T.put (T.put (T.put .leaf 0 (some (.int .i64 (.ofNat 8)))) 2 (some (.int .i64 (.ofNat 1)))) 3 (some (.int .i64 (.ofNat 5)))) 5 (some (.str [97]))) 6 (some (.int .i64 (.ofNat 12)))) 12 (some (.int .i64 (.ofNat 14))))),(8963,.cells (some 49) 8 [.int .i64 (.ofNat 0)] (T.put .leaf 6 (some (.int .i64 (.ofNat 7))))),(8964,.cells (some 3) 4 [.int .i64 (.ofNat 0),.int .i64 (.ofNat 0),.int .i64 (.ofNat 1),.int .i64 (.ofNat 1)] .leaf),(8966,.cells (some 53) 6 [.int .i64 (.ofNat 3),.int .i64 (.ofNat 1),.int .i64 (.ofNat 0),.int .u32 (.ofNat 1)] (T.put .leaf 0 (some (.int .i64 (.ofNat 0))))),(0,.ro (some 0) 12 [.str [],.str [109,111,100,101,108],.str [111,110,99,101],.str [101,110,100,101,100],.str [115,116,101,97,100,121],.str [99,97,117,115,101,100],.str [117,115,101,100],.str [99,111,117,110,116,115],.str [113,117,111,116,97],.str [115,116,97,108,101],.str [108,101,97,107,115],.str [107,101,101,112,115]] .leaf),(2,.ro (some 0) 4 [.int .u8 (.ofNat 0),.int .u8 (.ofNat 111),.int .u8 (.ofNat 108),.int .u8 (.ofNat 102)] .leaf)],8981,.tuple [.slice 10971 0 2 (.atl 2 1),.int .i64 (.ofNat 0)],[(10971,some (.cells (some 3) 2 [.int .i64 (.ofNat 1),.int .i64 (.ofNat 10)] .leaf))],10972⟩
noncomputable def t7:T Rec:=(T.put .leaf r6.n0 (some r6))
theorem Sx (sh:Sh):ja Tryz.prog t7:=(ja.leaf.put (PJ sh))
theorem Sy:r7.ok (evT (GR t7) 100000 r7.f r7.args r7.start)=true:=by kernel_rfl
theorem PK (sh:Sh):Snd Tryz.prog r7:=qt sh (Sx sh) Sy
noncomputable def fY:List V:=[.str [],.str [109,111,100,101,108],.str [111,110,99,101],.str [101,110,100,101,100],.str [115,116,101,97,100,121],.str [99,97,117,115,101,100],.str [117,115,101,100],.str [99,111,117,110,116,115],.str [113,117,111,116,97],.str [115,116,97,108,101],.str [108,101,97,107,115],.str [107,101,101,112,115]]
noncomputable def t8:T Rec:=(T.put (T.put (T.put (T.put .leaf r1.n0 (some r1)) r3.n0 (some r3)) r5.n0 (some r5)) r7.n0 (some r7))
theorem PL (sh:Sh):ja Tryz.prog t8:=((((ja.leaf.put (PD sh)).put (PF sh)).put (PI sh)).put (PK sh))
noncomputable def hV:H:=⟨(T.leaf.put 2 (some (.ro (some 0) 4 [.int .u8 0,.int .u8 111,.int .u8 108,.int .u8 102] .leaf))).put 0 (some (.ro (some 0) 12 fY .leaf)),1000⟩
noncomputable def UP:Option (V×H):=yM (GR t8) (evC (GR t8) 100000) (.fn 5 []) hV
theorem PM:(match UP with
 |some (.bool true,_)=>true
 |_=>false)=true:=by kernel_rfl
theorem Nc (sh:Sh):∃ h1,iW Tryz.prog (.fn 5 []) hV (.bool true) h1:=by
 have:=PM;split at this;·rename_i h1 e;exact⟨h1,fun s Y w ht hS=>wH (S.jl _).1 (Ho (S.jl _).1 (S.jl _).2 (Sf sh (PL sh)) 100000) (S.jl _).2 (Sf sh (PL sh)) _ s Y hV w _ _ ht hS e⟩
 .cases this
end Go.Proofs.YtboaighhnghpdaaGreatDoor

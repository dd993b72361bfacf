/- JudgeParts returns true for every input, and its arguments read afterwards as before: the row, and the card; the package-level variables that it lists hold what their initialisers lay. -/
import Derived.Test.YtboaighhnghpdaaGreatDoorQ
import Derived.Test.YtboaighhnghpdaaGreatDoorTie
import Derived.Test.YtboaighhnghpdaaGreatDoorCards
import Derived.ProofKit
import Derived.LaidMore
import Derived.OpenShut
import Derived.Stop.Joined
import Derived.SevenTiedAt
import Derived.Carry
import Derived.Test.YtboaighhnghpdaaGreatDoorGo
import Derived.Test.YtboaighhnghpdaaGreatDoorJ
set_option linter.unusedVariables false
set_option linter.unusedSimpArgs false
set_option maxHeartbeats 1000000
namespace Go.Proofs.YtboaighhnghpdaaGreatDoor
set_option maxRecDepth 100000
open Go.ChangeShapes Go.WideShapes Go.ChangeAt Go.WideMaps Go.WideElems Go.RowKit
namespace Claim
theorem own:ownKnob Tryz.prog.godebug=.none:=by kernel_rfl
theorem laidOut:laidOutB Tryz.prog=true:=by kernel_rfl
theorem WD:Tryz.prog.globalNamed "estray/answer.letters" = some 2:=by kernel_rfl
theorem WE:(Tryz.prog.globals[2]?).map (·.type)=some 441:=by kernel_rfl
theorem WG:Tryz.prog.globalNamed "estray/judge.words" = some 0:=by kernel_rfl
theorem WH:(Tryz.prog.globals[0]?).map (·.type)=some 68:=by kernel_rfl
abbrev lets:List (String×DataW Unit):=[("estray/answer.letters",Rows.laid_estray_answer_letters),("estray/judge.words",Rows.laid_estray_judge_words)]
theorem nO {W:World}{g:Nat}{cs0:Array Value}(hc:∀ i,W.cell? ⟨g,i,.none⟩=cs0[i]?)(h0:0<cs0.size):∃ cs el fr,W.heap[g]?=some (.cells cs el fr)/\∀ i:Nat,cs[i]?=cs0[i]?:=by
 have h00:=hc 0;rw[bq h0] at h00;unfold World.cell? at h00;split at h00;·rename_i c el fr hw;refine⟨c,el,fr,hw,fun i=>?_⟩;have h1:=hc i;unfold World.cell? at h1;rw[hw] at h1;simpa using h1
 .cases h00
theorem Wv {W:World}(h:laidMetH Tryz.prog lets W):Uh W:=by
 rw[MakeChecks.laidMetH_plain _ _ _ (by kernel_rfl)] at h;obtain⟨ps,⟨g0,t0,cs0,f0,p0,q0,hg0,ht0,hv0,hd0,⟨g1,t1,cs1,f1,p1,q1,hg1,ht1,hv1,hd1,_,_⟩,_⟩,_,_⟩:=h;obtain rfl:=bP (WD.symm.trans hg0);obtain rfl:=bP (WE.symm.trans ht0);obtain rfl:=bP (WG.symm.trans hg1);obtain rfl:=bP (WH.symm.trans ht1);have c0:=fun i=>World.var?_cell hg0 hv0 i;have c1:=fun i=>World.var?_cell hg1 hv1 i;constructor
 .have u5:Tryz.prog.underlying 5=some (.int .u8):=by kernel_rfl
  have c5:Tryz.prog.cellsOf 5=1:=by kernel_rfl
  have ca:Tryz.prog.cellsOf 441=4:=by kernel_rfl
  obtain⟨xs,m1,rfl,hx1,hlen,hn3,hel⟩:=DataW.trod_array (show Tryz.prog.underlying 441=some (.array 4 5) by kernel_rfl) hd0;rw[ca,aT] at hlen;have hm:xs.map (·.1)=[.lit (.int .u8 0),.lit (.int .u8 111),.lit (.int .u8 108),.lit (.int .u8 102)]:=by simp only[ez] at hx1;have h1:=hx1.1;unfold Rows.laid_estray_answer_letters at h1;injection h1 with h1;exact h1.symm
  have key:∀ i,i<4->cs0[i]?=some (.int .u8 (.ofNat (([0,111,108,102]:List Nat).getD i 0))):=by
   intro i hi;have h0:=hel i hi;have hxi:xs[i]?=some xs[i]:=ah (by omega);rw[c5,hxi,eA] at h0;obtain⟨n,e1,e2,_⟩:=DataW.trod_int u5 h0;have hn:(xs.map (·.1))[i]?=some (.lit (.int .u8 n)):=by rw[aL,hxi,e2];rfl
   rw[hm] at hn;have h2:(cs0.toList.drop i)[0]?=some (.int .u8 n):=by
    have:((cs0.toList.drop i).take 1)[0]?=some (.int .u8 n):=by rw[e1];rfl
    rwa [List.getElem?_take_of_lt (by decide)] at this
   rw[bJ,bX,aM] at h2;rw[h2];match i,hi,hn with
   |0,_,hn=>cases hn;rfl
   |1,_,hn=>cases hn;rfl
   |2,_,hn=>cases hn;rfl
   |3,_,hn=>cases hn;rfl
  obtain⟨cs,el,fr,hw,hcs⟩:=nO c0 (by omega);have:cs=cs0:=Array.ext_getElem? hcs;subst this;refine⟨_,el,fr,hw,hlen,fun i v hv=>?_⟩;have hi:i<4:=(ai.1 hv).1;refine⟨_,key i hi,rfl,fun ρ=>?_⟩;match i,hi,hv with
  |0,_,hv=>cases hv;exact .int _ _
  |1,_,hv=>cases hv;exact .int _ _
  |2,_,hv=>cases hv;exact .int _ _
  |3,_,hv=>cases hv;exact .int _ _
 .have us:Tryz.prog.underlying 9=some .string:=by kernel_rfl
  have c9:Tryz.prog.cellsOf 9=1:=by kernel_rfl
  have ca:Tryz.prog.cellsOf 68=12:=by kernel_rfl
  obtain⟨xs,m1,rfl,hx1,hlen,hn3,hel⟩:=DataW.trod_array (show Tryz.prog.underlying 68=some (.array 12 9) by kernel_rfl) hd1;rw[ca,aT] at hlen;have hm:xs.map (·.1)=fY.map fun v=>match v with
   |.str s=>.lit (.string s)
   |_=>.nil:=by
   simp only[ez] at hx1;have h1:=hx1.1;unfold Rows.laid_estray_judge_words at h1;injection h1 with h1;exact h1.symm
  have key:∀ i,i<12->∃ s:List UInt8,fY[i]?=some (Ev.V.str s)/\cs1[i]?=some (.string ⟨s.toArray⟩):=by
   intro i hi;have h0:=hel i hi;have hxi:xs[i]?=some xs[i]:=ah (by omega);rw[c9,hxi,eA] at h0;obtain⟨s,e1,e2,_⟩:=DataW.trod_string us h0;have hn:(xs.map (·.1))[i]?=some (.lit (.string s.data.toList)):=by rw[aL,hxi,e2];rfl
   rw[hm] at hn;have h2:(cs1.toList.drop i)[0]?=some (.string s):=by
    have:((cs1.toList.drop i).take 1)[0]?=some (.string s):=by rw[e1];rfl
    rwa [List.getElem?_take_of_lt (by decide)] at this
   rw[bJ,bX,aM] at h2;have hs:(⟨s.data.toList.toArray⟩:ByteArray)=s:=by rw[aP]
   refine⟨s.data.toList,?_,by rw[hs];exact h2⟩;match i,hi,hn with
   |0,_,hn=>injection hn with q;injection q with q;injection q with q;rw[<- q];rfl
   |1,_,hn=>injection hn with q;injection q with q;injection q with q;rw[<- q];rfl
   |2,_,hn=>injection hn with q;injection q with q;injection q with q;rw[<- q];rfl
   |3,_,hn=>injection hn with q;injection q with q;injection q with q;rw[<- q];rfl
   |4,_,hn=>injection hn with q;injection q with q;injection q with q;rw[<- q];rfl
   |5,_,hn=>injection hn with q;injection q with q;injection q with q;rw[<- q];rfl
   |6,_,hn=>injection hn with q;injection q with q;injection q with q;rw[<- q];rfl
   |7,_,hn=>injection hn with q;injection q with q;injection q with q;rw[<- q];rfl
   |8,_,hn=>injection hn with q;injection q with q;injection q with q;rw[<- q];rfl
   |9,_,hn=>injection hn with q;injection q with q;injection q with q;rw[<- q];rfl
   |10,_,hn=>injection hn with q;injection q with q;injection q with q;rw[<- q];rfl
   |11,_,hn=>injection hn with q;injection q with q;injection q with q;rw[<- q];rfl
  obtain⟨cs,el,fr,hw,hcs⟩:=nO c1 (by omega);have:cs=cs1:=Array.ext_getElem? hcs;subst this;refine⟨_,el,fr,hw,hlen,fun i v hv=>?_⟩;obtain⟨s,q1,q2⟩:=key i (ai.1 hv).1;rw[hv] at q1;cases q1;exact⟨_,q2,rfl,fun ρ=>.str _⟩
end Claim
namespace Claim
theorem WA {H:Type}{enc:TypeId×Value->H}{W:World}{base:Nat}{v0 v1:Value}{d1:DataW H}{p1:List MemPlace}(hH:Uh W)(h0:Value.okWide Tryz.prog W .any base 24 v0)(h1:Value.okWide Tryz.prog W .any base 33 v1)(t1:DataW.Trod enc Tryz.prog W 0 (fun _=>true) true 33 v1 d1 p1)(k:Nat):
  CallsIn Fence.wide k Tryz.prog 3 #[v0,v1] W (fun e w'=>e=.returned (.bool true)/\Below W.heap.size W w'):=by
 obtain⟨d,ok,ρ,hS,hc,ha⟩:=Tm hH h0 h1 t1;exact zap ok hS hc ha k
theorem Ww {H:Type}{enc:TypeId×Value->H}{W W':World}{v0 v1:Value}{d0 d1:DataW H}{p0 p1 before:List MemPlace}(hW:DataW.Whole enc Tryz.prog Tryz.f3.params.toList Rows.judgePartsSpec.vars false W [v0,v1] [d0,d1] [] before)(hp:before=p0++p1)
  (h0:DataW.Trod enc Tryz.prog W 0 (fun _=>true) true 24 v0 d0 p0)(h1:DataW.Trod enc Tryz.prog W 0 (fun _=>true) true 33 v1 d1 p1)(hb:Below W.heap.size W W'):
  Rows.judgePartsSpec.post enc Tryz.prog Tryz.f3 false true false false W #[v0,v1] (.bool true) W':=by
 have hlt:∀ x∈before,x.block<W.heap.size:=fun x hx=>by simpa using hW.lt x hx
 rw[hp] at hlt;refine⟨[d0,d1],[],before,[],p0++p1,[],hW,?_,?_,rfl,hb.frame _,fun h=>by cases h⟩;·rw[show Tryz.f3.resultTypes = #[4] by kernel_rfl];exact trodAll_mk1 (shut_bool (by kernel_rfl) true)
 .rw[show Tryz.f3.params = #[24,33] from Tryz.params3];exact trodAll_mk2 (Below.trod laidOut (by kernel_rfl) (of_decide_eq_true (by kernel_rfl)) h0 hb fun x hx=>hlt x (by simp[hx]))
   (Below.trod laidOut (by kernel_rfl) (of_decide_eq_true (by kernel_rfl)) h1 hb fun x hx=>hlt x (by simp[hx]))
end Claim
namespace Claim
theorem WB (os:Os)(args:Array Value):laidMetH Tryz.prog lets ((World.doorLaid Tryz.prog 400 os).forCall (fun _ _=>0) ⟨#[],args,[]⟩).memory:=
 laidMetH_of_parts3 (fuel:=8) (laidMet_of_run' 8 (by kernel_rfl) (by kernel_rfl)) (by kernel_rfl) (by kernel_rfl)
def start:Array Value:=#[.agg #[.int .i64 0,.int .i64 0,.int .i64 0,.int .i64 0,.int .i64 0,.int .i64 0,.int .i64 0,.int .i64 0,.int .i64 0,.int .u32 0],.agg #[.slice .none 0 0,.slice .none 0 0,.slice .none 0 0,.slice .none 0 0,.slice .none 0 0,.int .i64 0,.int .i64 0,.int .i64 0,.int .i64 0,.int .i64 0]]
theorem noInit:Tryz.prog.inits.idxOf? 3=.none:=by kernel_rfl
theorem w1 (os:Os):((World.doorLaid Tryz.prog 400 os).forCall (fun _ _=>0) ⟨#[],start,[]⟩).Shaped Tryz.prog:=World.shaped_of_RefB (by kernel_rfl) (by kernel_rfl)
theorem w2 (os:Os):Input.okWideB Tryz.prog ((World.doorLaid Tryz.prog 400 os).forCall (fun _ _=>0) ⟨#[],start,[]⟩) 3 ⟨#[],start,[]⟩=true:=by kernel_rfl
theorem w3 (os:Os)(H:Type)(enc:TypeId×Value->H):Rows.judgePartsSpec.preB enc Tryz.prog Tryz.f3 [] false ((World.doorLaid Tryz.prog 400 os).forCall (fun _ _=>0) ⟨#[],start,[]⟩).memory start 8=true:=by kernel_rfl
theorem w4 (os:Os)(H:Type)(enc:TypeId×Value->H):Rows.judgePartsSpec.sizedB enc Tryz.prog Tryz.f3 false ((World.doorLaid Tryz.prog 400 os).forCall (fun _ _=>0) ⟨#[],start,[]⟩).memory start 8=true:=by kernel_rfl
end Claim
namespace Claim
theorem lifted (os:Os)(started:os.Started)(H:Type)(enc:TypeId×Value->H):
  ReturnsInHanded {} Tryz.checked os 3 .any (fun w args=>(Rows.judgePartsSpec.pre enc Tryz.prog Tryz.f3 [] false w args/\laidMetH Tryz.prog lets w)/\sizedMet enc Tryz.prog Tryz.f3 (OpenSpec.ofChange Rows.judgePartsSpec) false w args)
   (Rows.judgePartsSpec.post enc Tryz.prog Tryz.f3 false true false false):=by
 refine returnsInHanded_of_change_and (C:=Tryz.checked) (X:=fun w _=>laidMetH Tryz.prog lets w) (fun _ _ _ hh h=>h.of_heap hh) own started noInit Tryz.func3
  (ChangeSpec.witness_shaped (enc:=enc) (C:=Tryz.checked) (os:=os) (X:=fun w _=>laidMetH Tryz.prog lets w) false (World.doorLaid Tryz.prog 400 os) start 8 rfl (w1 os) (w2 os) (w3 os H enc) (w4 os H enc) (WB os _)) ?_
 intro W base args ds gs before hval0 hW _ _ hL _;have hval:∀ (j:Nat) t v,Tryz.f3.params[j]?=some t->args[j]?=some v->Value.okWide Tryz.prog W .any base t v:=hval0;have hW':=hW;obtain⟨p,q,hA0,hV,rfl,hfz,hnd⟩:=hW;have hA:DataW.TrodAll enc Tryz.prog W 0 (fun _=>true) true Tryz.f3.params.toList args.toList ds p:=hA0;rw[Tryz.params3] at hA hval;obtain⟨v0,v1,d0,d1,p0,p1,rfl,rfl,rfl,h0,h1⟩:=trodAll_two hA;obtain⟨rfl,rfl⟩:=trodVars_none hV;simp only[cC] at hW';refine(callsIn_wide.1 (WA (Wv hL) (hval 0 24 v0 rfl rfl) (hval 1 33 v1 rfl rfl) h1 0)).mono fun e W' ⟨he,hb⟩=>?_;subst he;exact⟨_,rfl,Ww hW' rfl h0 h1 hb⟩
theorem f1:Tryz.prog.funcNamed "estray/estraylaw46.JudgeParts" = some 3:=by kernel_rfl
theorem f2:joinedFacts Tryz.prog 3 Tryz.f3 Rows.judgePartsSpec Rows.judgePartsRow=true:=Fact.all
theorem f3:Rows.judgePartsRow.wfByText (OpenSpec.ofChange Rows.judgePartsSpec)=true:=by kernel_rfl
theorem f4:Tryz.prog.mainIs=some (true, "01064c71620444c0266b4730e4f4531543820f56994d85d81b81db4816f1c7b5".toList):=by kernel_rfl
theorem f5:true=Tryz.prog.looks []:=by kernel_rfl
theorem f6:false=Rows.judgePartsRow.goesBy Tryz.prog:=Ev.Goes.by_none (by kernel_rfl) (by kernel_rfl) rfl
theorem f7:([24,33].all fun u=>!Tryz.prog.wantsStandIn u)=true:=by kernel_rfl
theorem inst:Tryz.f3.isInstance Tryz.prog Rows.judgePartsRow.origin Rows.judgePartsRow.targs:=of_decide_eq_true (by kernel_rfl)
theorem wrap:Tryz.f3.isWrapper Tryz.prog Rows.judgePartsRow.wrapper Rows.judgePartsRow.mainSum:=by
 unfold Func.isWrapper;first
  |(rw[if_pos (by decide +kernel)];kernel_rfl)
  |(rw[if_neg (by decide +kernel)];exact⟨rfl,rfl⟩)
theorem Wx:Rows.JudgePartsSaid:=
 OpenClaim.holds_of_wide 3 Tryz.f3 rfl rfl rfl rfl rfl rfl rfl ⟨rfl,rfl,rfl,rfl,rfl⟩ rfl rfl rfl rfl rfl f1 Tryz.func3 f2 inst wrap
  (fun os started H enc _=>lifted os started H enc)
end Claim
theorem judgeParts_holds:Rows.JudgePartsCardSaid:=
 Claim7.holds_tied_plain_at .later [] [.widerDeep,.data] true (true, "01064c71620444c0266b4730e4f4531543820f56994d85d81b81db4816f1c7b5") true
  Claim.Wx (fun _ h=>by cases h) Claim.f3 (fun _ h=>by cases h) judgeParts_row_tie rfl ⟨rfl,rfl⟩ Claim.f4 rfl
  (fun f fn hf hfn=>by
    obtain rfl:f=3:=bP (Claim.f1.symm.trans hf) |>.symm;obtain rfl:fn=Tryz.f3:=(bP (Tryz.func3.symm.trans hfn)).symm;exact⟨Claim.f5,fun j t ht=>by
     rw[Tryz.params3] at ht;have hm:t∈[24,33]:=by simpa using dg ht
     exact(show Tryz.prog.wantsStandIn t=false by simpa using bz.1 Claim.f7 t hm)⟩)
  Claim.f6
#print axioms judgeParts_holds
end Go.Proofs.YtboaighhnghpdaaGreatDoor

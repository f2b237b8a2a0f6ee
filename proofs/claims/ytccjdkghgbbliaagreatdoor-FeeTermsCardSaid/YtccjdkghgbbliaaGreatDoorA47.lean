/- The closed facts of a row, one theorem each (feeTermsRow). PRINTED BY A PROGRAM (z7.py). -/
import Derived.Test.YtccjdkghgbbliaaGreatDoorA45
import Derived.Test.YtccjdkghgbbliaaGreatDoorA46
set_option linter.all false
namespace Go.Proofs.YtccjdkghgbbliaaGreatDoor
section
set_option maxHeartbeats 1000000
set_option maxRecDepth 10000
open Go
theorem dI{a b:Bool}(h:a=true)(k:b=true):(a&&b)=true:=by rw[h,k];rfl
set_option maxRecDepth 100000
theorem k3_k0:(Rows.feeTermsRow.wf (OpenSpec.ofChange Rows.feeTermsSpec))=true:=by kernel_rfl
theorem k3_k1:(laidOutB Tryz.pinned.checked.prog)=true:=by kernel_rfl
theorem k3_k2:(mapsRowed Tryz.pinned.checked.prog)=true:=by kernel_rfl
theorem k3_k3:(Tryz.f3.params.all (Tryz.pinned.checked.prog.readableRec ·))=true:=by kernel_rfl
theorem k3_k4:(namedTie Tryz.pinned.checked.prog Rows.feeTermsRow.named Rows.feeTermsSpec.vars)=true:=by kernel_rfl
theorem k3_k5:((Rows.feeTermsRow.stops==[]))=true:=by kernel_rfl
theorem k3_k6:((Tryz.pinned.checked.prog.stops==[]))=true:=by kernel_rfl
theorem k3_k7:((Rows.feeTermsRow.knobs==[]))=true:=by kernel_rfl
theorem k3_k8:((Tryz.pinned.checked.prog.stopKnobs==[]))=true:=by kernel_rfl
theorem k3_k9:((Rows.feeTermsRow.inPlace==Tryz.pinned.checked.prog.inPlace 3))=true:=by kernel_rfl
theorem k3_k10:((Rows.feeTermsRow.unfollowed==Tryz.pinned.checked.prog.unfollowed 3))=true:=by kernel_rfl
theorem k3_k11:((Rows.feeTermsRow.recurses==Tryz.pinned.checked.prog.recurses 3))=true:=by kernel_rfl
theorem k3_k12:((Rows.feeTermsRow.named==Tryz.pinned.checked.prog.varsNamed 3))=true:=by kernel_rfl
theorem k3_k13:((Rows.feeTermsRow.maps==(Tryz.f3.params.toList++Rows.feeTermsSpec.plain.varTypes Tryz.pinned.checked.prog).any (Tryz.pinned.checked.prog.mapsRec ·)))=true:=by kernel_rfl
theorem k3_k14:((Rows.feeTermsRow.ifaces==(Tryz.f3.params.toList++Rows.feeTermsSpec.plain.varTypes Tryz.pinned.checked.prog).any (Tryz.pinned.checked.prog.ifacesRec ·)))=true:=by kernel_rfl
theorem k3_k15:((Rows.feeTermsRow.mapsOut==Tryz.pinned.checked.prog.mapsAmong Tryz.f3.resultTypes.toList))=true:=by kernel_rfl
theorem k3_k16:((Rows.feeTermsRow.loops==(Tryz.f3.params.toList++Rows.feeTermsSpec.plain.varTypes Tryz.pinned.checked.prog).any (Tryz.pinned.checked.prog.loopsFrom ·)))=true:=by kernel_rfl
theorem k3_k17:((Rows.feeTermsRow.wideKeys==(Tryz.f3.params.toList++Rows.feeTermsSpec.plain.varTypes Tryz.pinned.checked.prog++Tryz.f3.resultTypes.toList).any (Tryz.pinned.checked.prog.wideKeysFrom ·)))=true:=by kernel_rfl
theorem k3_k18:(Rows.feeTermsSpec.vars.all (Tryz.pinned.checked.prog.varReadable ·))=true:=by kernel_rfl
theorem k3_k19:(Tryz.f3.resultTypes.all (λt=>Tryz.pinned.checked.prog.readableRec t&&decide (t<Tryz.pinned.checked.prog.types.size)))=true:=by kernel_rfl
theorem k3_k20:((Rows.feeTermsRow.ifacesOut==Tryz.f3.resultTypes.toList.any (Tryz.pinned.checked.prog.ifacesRec ·)))=true:=by kernel_rfl
theorem k3_k21:((Rows.feeTermsRow.loopsOut==Tryz.f3.resultTypes.toList.any (Tryz.pinned.checked.prog.loopsFrom ·)))=true:=by kernel_rfl
theorem k3_k22:((Rows.feeTermsRow.plainKeys==Tryz.pinned.checked.prog.plainKeys))=true:=by kernel_rfl
theorem k3_k23:(Rows.feeTermsRow.shortTexts.isNone)=true:=by kernel_rfl
theorem k3_k24:(Tryz.pinned.checked.prog.stopsHeard)=true:=by kernel_rfl
theorem k3_k25:(Tryz.pinned.checked.prog.mayEnter)=true:=by kernel_rfl
theorem k3_k26:((Rows.feeTermsRow.lifted==Tryz.pinned.checked.prog.liftsFinal))=true:=by kernel_rfl
theorem k3_k27:((Tryz.pinned.checked.prog.make==some Rows.feeTermsRow.make))=true:=by kernel_rfl
theorem k3_k28:((Rows.feeTermsRow.kinds==(if Rows.feeTermsRow.domain.isEmpty then[]else Tryz.f3.params.toList.map λt=>match Tryz.pinned.checked.prog.underlying t with|some (.int k)=>some k|_=>none)))=true:=by kernel_rfl
theorem k3_k29:((Rows.feeTermsRow.pinned==Rows.feeTermsRow.pinnedBy))=true:=by kernel_rfl
theorem k3_k30:((Rows.feeTermsRow.veiled==(Tryz.f3.params.toList++Rows.feeTermsSpec.plain.varTypes Tryz.pinned.checked.prog++Tryz.f3.resultTypes.toList).any (Tryz.pinned.checked.prog.veiledRec ·)))=true:=by kernel_rfl
theorem k3_k31:(Rows.feeTermsRow.veiledFits Tryz.pinned.checked.prog Tryz.f3.params.toList (Tryz.f3.params.toList++Rows.feeTermsSpec.plain.varTypes Tryz.pinned.checked.prog++Tryz.f3.resultTypes.toList))=true:=by kernel_rfl
theorem Oo:joinedFacts Tryz.pinned.checked.prog 3 Tryz.f3 Rows.feeTermsSpec Rows.feeTermsRow=true:=dI (dI (dI (dI (dI (dI (dI (dI (dI (dI (dI (dI (dI (dI (dI (dI (dI (dI (dI (dI (dI (dI (dI (dI (dI (dI (dI (dI (dI (dI (dI (k3_k0) k3_k1) k3_k2) k3_k3) k3_k4) k3_k5) k3_k6) k3_k7) k3_k8) k3_k9) k3_k10) k3_k11) k3_k12) k3_k13) k3_k14) k3_k15) k3_k16) k3_k17) k3_k18) k3_k19) k3_k20) k3_k21) k3_k22) k3_k23) k3_k24) k3_k25) k3_k26) k3_k27) k3_k28) k3_k29) k3_k30) k3_k31
theorem Hz:Tryz.pinned.checked.prog.funcNamed Rows.feeTermsRow.func=some 3:=by kernel_rfl
theorem k3_inst:Tryz.f3.isInstance Tryz.pinned.checked.prog Rows.feeTermsRow.origin Rows.feeTermsRow.targs:=of_decide_eq_true (by kernel_rfl)
theorem k3_wrap:Tryz.f3.isWrapper Tryz.pinned.checked.prog Rows.feeTermsRow.wrapper Rows.feeTermsRow.mainSum:=by unfold Func.isWrapper;first|(rw[if_pos (by decide +kernel)];kernel_rfl)|(rw[if_neg (by decide +kernel)];exact⟨rfl,rfl⟩)
end
section
set_option maxHeartbeats 1000000
set_option maxRecDepth 10000
open Go Go.Conc Go.RowKit Go.ChangeShapes Go.WideShapes Lift
theorem fP.cells{f:bM}{wa w:World}(h:fP wa.heap.size f wa)(hc:∀a,w.cell? a=wa.cell? a)(hs:w.heap.size=wa.heap.size):fP w.heap.size f w:=by
 have up:∀{base:Option Addr} {size:Nat} {rows:List (List Value)},bg wa.heap.size base size rows wa→bg w.heap.size base size rows w:=λh' i r hr=>by
  obtain⟨b',o,h1,h2,h3⟩:=h' i r hr;exact⟨b',o,h1,by omega,λj v hv=>(hc _).trans (h3 j v hv)⟩
 exact⟨⟨aj _,up h.cal.ls,up h.cal.ss⟩,up h.rs,λa ha=>let q:=h.at_ a ha;⟨up q.ps,up q.cs,λc hc'=>⟨up (q.cl c hc').is⟩,up q.ds⟩⟩
theorem Dc{H:Type}{enc:TypeId×Value→H}{P:Program}{w:World}{base:Nat}{spare:Nat→Bool}{held:Bool}{t0 t1 t2 t3 t4 t5 t6 t7:TypeId}{args:Array Value}{ds:List (DataW H)}{ps:List MemPlace}(h:DataW.TrodAll enc P w base spare held [t0,t1,t2,t3,t4,t5,t6,t7] args.toList ds ps) :
  ∃v0 v1 v2 v3 v4 v5 v6 v7 d0 d1 d2 d3 d4 d5 d6 d7 p0 p1 p2 p3 p4 p5 p6 p7,args=#[v0,v1,v2,v3,v4,v5,v6,v7]∧ds=[d0,d1,d2,d3,d4,d5,d6,d7]∧ps=p0++(p1++(p2++(p3++(p4++(p5++(p6++p7))))))∧
   DataW.Trod enc P w base spare held t0 v0 d0 p0∧DataW.Trod enc P w base spare held t1 v1 d1 p1∧DataW.Trod enc P w base spare held t2 v2 d2 p2∧DataW.Trod enc P w base spare held t3 v3 d3 p3∧
   DataW.Trod enc P w base spare held t4 v4 d4 p4∧DataW.Trod enc P w base spare held t5 v5 d5 p5∧DataW.Trod enc P w base spare held t6 v6 d6 p6∧DataW.Trod enc P w base spare held t7 v7 d7 p7:=by
 obtain⟨v0,vs0,d0,e0,p0,q0,hargs,rfl,rfl,h0,hr0⟩:=trodAll_cons h;obtain⟨v1,vs1,d1,e1,p1,q1,rfl,rfl,rfl,h1,hr1⟩:=trodAll_cons hr0;obtain⟨v2,vs2,d2,e2,p2,q2,rfl,rfl,rfl,h2,hr2⟩:=trodAll_cons hr1;obtain⟨v3,vs3,d3,e3,p3,q3,rfl,rfl,rfl,h3,hr3⟩:=trodAll_cons hr2;obtain⟨v4,vs4,d4,e4,p4,q4,rfl,rfl,rfl,h4,hr4⟩:=trodAll_cons hr3;obtain⟨v5,vs5,d5,e5,p5,q5,rfl,rfl,rfl,h5,hr5⟩:=trodAll_cons hr4;obtain⟨v6,vs6,d6,e6,p6,q6,rfl,rfl,rfl,h6,hr6⟩:=trodAll_cons hr5;obtain⟨v7,vs7,d7,e7,p7,q7,rfl,rfl,rfl,h7,hr7⟩:=trodAll_cons hr6;obtain⟨rfl,rfl,rfl⟩:=trodAll_nil hr7;exact⟨v0,v1,v2,v3,v4,v5,v6,v7,d0,d1,d2,d3,d4,d5,d6,d7,p0,p1,p2,p3,p4,p5,p6,p7,by cases args;simp_all,rfl,by simp,h0,h1,h2,h3,h4,h5,h6,h7⟩
abbrev TN:Value:=.agg #[.slice none 0 0,.slice none 0 0,.int .i64 0,.int .i64 0,.int .i64 0,.int .i64 0,.int .i64 0,.int .i64 0,.int .i64 0,.int .i64 0,.int .i64 0,.int .i64 0,.int .i64 0,.int .i64 0,.slice none 0 0]
set_option maxRecDepth 100000 in
theorem yE(os:Os)(started:os.Started)(H:Type)(enc:TypeId×Value→H) :
  ReturnsInLeavingWide {} Tryz.checked os 3 .any (λw args=>(Rows.feeTermsSpec.pre enc Tryz.prog Tryz.f3 [] false w args∧laidMetH Tryz.prog laidAll w)∧sizedMet enc Tryz.prog Tryz.f3 (OpenSpec.ofChange Rows.feeTermsSpec) false w args)
   (Rows.feeTermsSpec.post enc Tryz.prog Tryz.f3 false true false false):=by
 refine yH (C:=Tryz.checked) (X:=λw _=>laidMetH Tryz.prog laidAll w) (λ_ _ _ hh h=>h.of_heap hh) own started Tryz.func3
  (ChangeSpec.witness_shaped (enc:=enc) (C:=Tryz.checked) (os:=os) (X:=λw _=>laidMetH Tryz.prog laidAll w) false (Po os) #[.agg #[.slice none 0 0,.slice none 0 0,.slice none 0 0,.slice none 0 0],TN,.int .u8 0,.int .u16 0,.int .u16 0,.int .u8 0,.int .u8 0,.int .u8 0] 3 (wit_os os) (LW os _) (by kernel_rfl) (by kernel_rfl) (by kernel_rfl) (door_met os _)) ?_
 intro W base args ds gs before hval0 hW hL;have hval:∀(j:Nat) t v,Tryz.f3.params[j]?=some t→args[j]?=some v→Value.okWide Tryz.prog W .any base t v:=hval0;have hW':=hW;obtain⟨p,q,hA0,hV,rfl,_,_⟩:=hW;have hA:DataW.TrodAll enc Tryz.prog W 0 (λ_=>true) true Tryz.f3.params.toList args.toList ds p:=hA0;rw[Tryz.params3]at hA hval;obtain⟨v0,v1,v2,v3,v4,v5,v6,v7,d0,d1,d2,d3,d4,d5,d6,d7,p0,p1,p2,p3,p4,p5,p6,p7,rfl,rfl,rfl,h0,h1,h2,h3,h4,h5,h6,h7⟩:=Dc hA;obtain⟨l,b,rfl,hcap,hbk⟩:=OJ (hval 0 27 v0 rfl rfl) h0;obtain⟨f,rfl,hfl⟩:=OL (hval 1 37 v1 rfl rfl) h1;obtain⟨x2,rfl,-,-,w2⟩:=open_int Tryz.underlying5 (hval 2 5 v2 rfl rfl) h2;obtain⟨x3,rfl,-,-,w3⟩:=open_int Tryz.underlying38 (hval 3 38 v3 rfl rfl) h3;obtain⟨x4,rfl,-,-,w4⟩:=open_int Tryz.underlying38 (hval 4 38 v4 rfl rfl) h4;obtain⟨x5,rfl,-,-,w5⟩:=open_int Tryz.underlying5 (hval 5 5 v5 rfl rfl) h5;obtain⟨x6,rfl,-,-,w6⟩:=open_int Tryz.underlying5 (hval 6 5 v6 rfl rfl) h6;obtain⟨x7,rfl,-,-,w7⟩:=open_int Tryz.underlying5 (hval 7 5 v7 rfl rfl) h7;have hk:=Cj (by simp) hL;have hl:=Fe (by simp) hL;have hx2:0≤x2∧x2≤255:=by simpa[Lit.wf,IntKind.min,IntKind.max,IntKind.signed,IntKind.bits]using w2
 have hx3:0≤x3∧x3≤65535:=by simpa[Lit.wf,IntKind.min,IntKind.max,IntKind.signed,IntKind.bits]using w3
 have hx4:0≤x4∧x4≤65535:=by simpa[Lit.wf,IntKind.min,IntKind.max,IntKind.signed,IntKind.bits]using w4
 have hx5:0≤x5∧x5≤255:=by simpa[Lit.wf,IntKind.min,IntKind.max,IntKind.signed,IntKind.bits]using w5
 have hx6:0≤x6∧x6≤255:=by simpa[Lit.wf,IntKind.min,IntKind.max,IntKind.signed,IntKind.bits]using w6
 have hx7:0≤x7∧x7≤255:=by simpa[Lit.wf,IntKind.min,IntKind.max,IntKind.signed,IntKind.bits]using w7
 obtain⟨N,last,o,w',t',e1,e2,e3,e4⟩:=RH (P:=Tryz.prog) (wa:=W) (args:=#[.agg (l.bG b),.agg f.arr,.int .u8 x2,.int .u16 x3,.int .u16 x4,.int .u8 x5,.int .u8 x6,.int .u8 x7]) Tryz.func3 rfl (by kernel_rfl) λw hcell hs hlim=>
  law3 (hbk.cells hcell hs) hcap (hfl.cells hcell hs) (λj v hj=>(hcell _).trans (hk j v hj)) (λj hj=>(hcell _).trans (hl j hj)) (by rw[hlim,hs];exact aj _) hx2.1 hx2.2 hx3.1 hx3.2 hx4.1 hx4.2 hx5.1 hx5.2 hx6.1 hx6.2 hx7.1 hx7.2
 exact⟨N,last,o,w',t',e1,e2,e3,e4.mono λv hv=>by
  obtain⟨rfl,hb⟩:=hv;exact OV rfl rfl (by kernel_rfl) (λl hl=>by match l,hl with | [_,_,_,_,_,_,_,_],_=>exact⟨rfl,rfl,rfl⟩) hW' rfl hb⟩
theorem zT:Rows.FeeTermsSaid:=
 OpenClaim.holds_of_wide_leaving 3 Tryz.f3 rfl rfl rfl rfl rfl rfl rfl ⟨rfl,rfl,rfl,rfl,rfl⟩ rfl rfl rfl rfl rfl Hz Tryz.func3 Oo k3_inst k3_wrap
  (λos started H enc _=>yE os started H enc)
theorem feeTerms_card:Rows.FeeTermsCardSaid:=
 Nu [.data,.data,.funcsDeep,.pinned] true (true, "2b3833b37c59463e22f25a6b7d36a15fd743a6e422ab7f52625749c65d5d1d7e") false zT (by kernel_rfl) feeTerms_row_tie rfl ⟨rfl,rfl⟩ (by kernel_rfl) rfl
  (λf fn hf hfn=>by
   obtain rfl:f=3:=Option.some.inj (Hz.symm.trans hf) |>.symm;obtain rfl:fn=Tryz.f3:=(Option.some.inj (Tryz.func3.symm.trans hfn)).symm;exact⟨by kernel_rfl,λj t ht=>by
    rw[Tryz.params3]at ht;have hm:t∈[27,37,5,38,38,5,5,5]:=by simpa using Array.mem_of_getElem? ht
    have hall:([27,37,5,38,38,5,5,5].all λu=>!Tryz.prog.wantsStandIn u)=true:=by kernel_rfl
    exact(show Tryz.prog.wantsStandIn t=false by simpa using List.all_eq_true.1 hall t hm)⟩)
  (by kernel_rfl)
end

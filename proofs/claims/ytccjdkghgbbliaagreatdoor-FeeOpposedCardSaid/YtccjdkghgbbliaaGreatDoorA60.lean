/- The closed facts of a row, one theorem each (feeOpposedRow). PRINTED BY A PROGRAM (z7.py). -/
import Derived.Test.YtccjdkghgbbliaaGreatDoorA56
import Derived.Test.YtccjdkghgbbliaaGreatDoorA57
set_option linter.all false
namespace Go.Proofs.YtccjdkghgbbliaaGreatDoor
section
set_option maxHeartbeats 1000000
set_option maxRecDepth 10000
open Go
theorem dO{a b:Bool}(h:a=true)(k:b=true):(a&&b)=true:=by rw[h,k];rfl
set_option maxRecDepth 100000
theorem k7_k0:(Rows.feeOpposedRow.wf (OpenSpec.ofChange Rows.feeOpposedSpec))=true:=by kernel_rfl
theorem k7_k1:(laidOutB Tryz.pinned.checked.prog)=true:=by kernel_rfl
theorem k7_k2:(mapsRowed Tryz.pinned.checked.prog)=true:=by kernel_rfl
theorem k7_k3:(Tryz.f7.params.all (Tryz.pinned.checked.prog.readableRec ·))=true:=by kernel_rfl
theorem k7_k4:(namedTie Tryz.pinned.checked.prog Rows.feeOpposedRow.named Rows.feeOpposedSpec.vars)=true:=by kernel_rfl
theorem k7_k5:((Rows.feeOpposedRow.stops==[]))=true:=by kernel_rfl
theorem k7_k6:((Tryz.pinned.checked.prog.stops==[]))=true:=by kernel_rfl
theorem k7_k7:((Rows.feeOpposedRow.knobs==[]))=true:=by kernel_rfl
theorem k7_k8:((Tryz.pinned.checked.prog.stopKnobs==[]))=true:=by kernel_rfl
theorem k7_k9:((Rows.feeOpposedRow.inPlace==Tryz.pinned.checked.prog.inPlace 7))=true:=by kernel_rfl
theorem k7_k10:((Rows.feeOpposedRow.unfollowed==Tryz.pinned.checked.prog.unfollowed 7))=true:=by kernel_rfl
theorem k7_k11:((Rows.feeOpposedRow.recurses==Tryz.pinned.checked.prog.recurses 7))=true:=by kernel_rfl
theorem k7_k12:((Rows.feeOpposedRow.named==Tryz.pinned.checked.prog.varsNamed 7))=true:=by kernel_rfl
theorem k7_k13:((Rows.feeOpposedRow.maps==(Tryz.f7.params.toList++Rows.feeOpposedSpec.plain.varTypes Tryz.pinned.checked.prog).any (Tryz.pinned.checked.prog.mapsRec ·)))=true:=by kernel_rfl
theorem k7_k14:((Rows.feeOpposedRow.ifaces==(Tryz.f7.params.toList++Rows.feeOpposedSpec.plain.varTypes Tryz.pinned.checked.prog).any (Tryz.pinned.checked.prog.ifacesRec ·)))=true:=by kernel_rfl
theorem k7_k15:((Rows.feeOpposedRow.mapsOut==Tryz.pinned.checked.prog.mapsAmong Tryz.f7.resultTypes.toList))=true:=by kernel_rfl
theorem k7_k16:((Rows.feeOpposedRow.loops==(Tryz.f7.params.toList++Rows.feeOpposedSpec.plain.varTypes Tryz.pinned.checked.prog).any (Tryz.pinned.checked.prog.loopsFrom ·)))=true:=by kernel_rfl
theorem k7_k17:((Rows.feeOpposedRow.wideKeys==(Tryz.f7.params.toList++Rows.feeOpposedSpec.plain.varTypes Tryz.pinned.checked.prog++Tryz.f7.resultTypes.toList).any (Tryz.pinned.checked.prog.wideKeysFrom ·)))=true:=by kernel_rfl
theorem k7_k18:(Rows.feeOpposedSpec.vars.all (Tryz.pinned.checked.prog.varReadable ·))=true:=by kernel_rfl
theorem k7_k19:(Tryz.f7.resultTypes.all (λt=>Tryz.pinned.checked.prog.readableRec t&&decide (t<Tryz.pinned.checked.prog.types.size)))=true:=by kernel_rfl
theorem k7_k20:((Rows.feeOpposedRow.ifacesOut==Tryz.f7.resultTypes.toList.any (Tryz.pinned.checked.prog.ifacesRec ·)))=true:=by kernel_rfl
theorem k7_k21:((Rows.feeOpposedRow.loopsOut==Tryz.f7.resultTypes.toList.any (Tryz.pinned.checked.prog.loopsFrom ·)))=true:=by kernel_rfl
theorem k7_k22:((Rows.feeOpposedRow.plainKeys==Tryz.pinned.checked.prog.plainKeys))=true:=by kernel_rfl
theorem k7_k23:(Rows.feeOpposedRow.shortTexts.isNone)=true:=by kernel_rfl
theorem k7_k24:(Tryz.pinned.checked.prog.stopsHeard)=true:=by kernel_rfl
theorem k7_k25:(Tryz.pinned.checked.prog.mayEnter)=true:=by kernel_rfl
theorem k7_k26:((Rows.feeOpposedRow.lifted==Tryz.pinned.checked.prog.liftsFinal))=true:=by kernel_rfl
theorem k7_k27:((Tryz.pinned.checked.prog.make==some Rows.feeOpposedRow.make))=true:=by kernel_rfl
theorem k7_k28:((Rows.feeOpposedRow.kinds==(if Rows.feeOpposedRow.domain.isEmpty then[]else Tryz.f7.params.toList.map λt=>match Tryz.pinned.checked.prog.underlying t with|some (.int k)=>some k|_=>none)))=true:=by kernel_rfl
theorem k7_k29:((Rows.feeOpposedRow.pinned==Rows.feeOpposedRow.pinnedBy))=true:=by kernel_rfl
theorem k7_k30:((Rows.feeOpposedRow.veiled==(Tryz.f7.params.toList++Rows.feeOpposedSpec.plain.varTypes Tryz.pinned.checked.prog++Tryz.f7.resultTypes.toList).any (Tryz.pinned.checked.prog.veiledRec ·)))=true:=by kernel_rfl
theorem k7_k31:(Rows.feeOpposedRow.veiledFits Tryz.pinned.checked.prog Tryz.f7.params.toList (Tryz.f7.params.toList++Rows.feeOpposedSpec.plain.varTypes Tryz.pinned.checked.prog++Tryz.f7.resultTypes.toList))=true:=by kernel_rfl
theorem PG:joinedFacts Tryz.pinned.checked.prog 7 Tryz.f7 Rows.feeOpposedSpec Rows.feeOpposedRow=true:=dO (dO (dO (dO (dO (dO (dO (dO (dO (dO (dO (dO (dO (dO (dO (dO (dO (dO (dO (dO (dO (dO (dO (dO (dO (dO (dO (dO (dO (dO (dO (k7_k0) k7_k1) k7_k2) k7_k3) k7_k4) k7_k5) k7_k6) k7_k7) k7_k8) k7_k9) k7_k10) k7_k11) k7_k12) k7_k13) k7_k14) k7_k15) k7_k16) k7_k17) k7_k18) k7_k19) k7_k20) k7_k21) k7_k22) k7_k23) k7_k24) k7_k25) k7_k26) k7_k27) k7_k28) k7_k29) k7_k30) k7_k31
theorem Jc:Tryz.pinned.checked.prog.funcNamed Rows.feeOpposedRow.func=some 7:=by kernel_rfl
theorem k7_inst:Tryz.f7.isInstance Tryz.pinned.checked.prog Rows.feeOpposedRow.origin Rows.feeOpposedRow.targs:=of_decide_eq_true (by kernel_rfl)
theorem k7_wrap:Tryz.f7.isWrapper Tryz.pinned.checked.prog Rows.feeOpposedRow.wrapper Rows.feeOpposedRow.mainSum:=by unfold Func.isWrapper;first|(rw[if_pos (by decide +kernel)];kernel_rfl)|(rw[if_neg (by decide +kernel)];exact⟨rfl,rfl⟩)
end
section
open Go Go.Conc Go.RowKit Go.ChangeShapes Go.WideShapes Lift
abbrev N8:List (String×DataW Unit):=[("unicode/utf8.acceptRanges", Rows.laid_unicode_utf8_acceptRanges),("touchmark/fees.kinds", Rows.laid_touchmark_fees_kinds),("touchmark/rival.checks", Rows.laid_touchmark_rival_checks),("unicode/utf8.first", Rows.laid_unicode_utf8_first)]
abbrev plainO:List (String×DataW Unit):=[("unicode/utf8.acceptRanges", Rows.laid_unicode_utf8_acceptRanges),("unicode/utf8.first", Rows.laid_unicode_utf8_first)]
noncomputable def QF (os:Os):World:=(World.doorLaid Tryz.prog 300 os).layVars Tryz.prog plainO
theorem MQ(os:Os)(args:Array Value):laidMet Tryz.prog plainO ((QF os).forCall (λ_ _=>0) ⟨#[],args,[]⟩).memory:=by
 have h:laidMet Tryz.prog plainO (QF os):=laidMet_layVars (w0:=World.doorLaid Tryz.prog 300 os) ["unicode/utf8.acceptRanges", "unicode/utf8.first"] [] rfl (by kernel_rfl) (by kernel_rfl) LaidIn.none;exact h.of_heap (by simp[World.memory,World.forCall,Input.heap])
theorem OV(os:Os)(args:Array Value):laidMetH Tryz.prog N8 ((QF os).forCall (λ_ _=>0) ⟨#[],args,[]⟩).memory:=
 laidMetH_of_parts3 (fuel:=8) (MQ os args) (by kernel_rfl) (by kernel_rfl)
theorem witO_os(os:Os):(QF os).os=os:=(World.layVars_os _ _ _).trans rfl
theorem J8(os:Os)(args:Array Value):((QF os).forCall (λ_ _=>0) ⟨#[],args,[]⟩).Shaped Tryz.prog:=World.shaped_of_ZipB (by kernel_rfl) (by kernel_rfl)
set_option maxRecDepth 100000 in
theorem wu(os:Os)(started:os.Started)(H:Type)(enc:TypeId×Value→H) :
  ReturnsInLeavingWide {} Tryz.checked os 7 .any (λw args=>(Rows.feeOpposedSpec.pre enc Tryz.prog Tryz.f7 [] false w args∧laidMetH Tryz.prog N8 w)∧sizedMet enc Tryz.prog Tryz.f7 (OpenSpec.ofChange Rows.feeOpposedSpec) false w args)
   (Rows.feeOpposedSpec.post enc Tryz.prog Tryz.f7 false true false false):=by
 refine y8 (C:=Tryz.checked) (X:=λw _=>laidMetH Tryz.prog N8 w) (λ_ _ _ hh h=>h.of_heap hh) own started Tryz.func7
  (ChangeSpec.witness_shaped (enc:=enc) (C:=Tryz.checked) (os:=os) (X:=λw _=>laidMetH Tryz.prog N8 w) false (QF os) #[.agg #[.slice none 0 0,.slice none 0 0,.slice none 0 0,.slice none 0 0],.int .u16 0,.int .u16 0,.agg #[.int .i64 0,.int .i64 0,.int .i64 0,.int .i64 0,.int .i64 0]] 3 (witO_os os) (J8 os _) (by kernel_rfl) (by kernel_rfl) (by kernel_rfl) (OV os _)) ?_
 intro W base args ds gs before hval0 hW hL;have hval:∀(j:Nat) t v,Tryz.f7.params[j]?=some t→args[j]?=some v→Value.okWide Tryz.prog W .any base t v:=hval0;have hW':=hW;obtain⟨p,q,hA0,hV,rfl,_,_⟩:=hW;have hA:DataW.TrodAll enc Tryz.prog W 0 (λ_=>true) true Tryz.f7.params.toList args.toList ds p:=hA0;rw[Tryz.params7]at hA hval;obtain⟨v0,v1,v2,v3,d0,d1,d2,d3,p0,p1,p2,p3,rfl,rfl,rfl,h0,h1,h2,h3⟩:=trodAll_four hA;obtain⟨l,b,rfl,hcap,hbk⟩:=Qa (hval 0 27 v0 rfl rfl) h0;obtain⟨x1,rfl,-,-,w1⟩:=open_int Tryz.underlying38 (hval 1 38 v1 rfl rfl) h1;obtain⟨x2,rfl,-,-,w2⟩:=open_int Tryz.underlying38 (hval 2 38 v2 rfl rfl) h2;obtain⟨m,rfl⟩:=Ue (hval 3 93 v3 rfl rfl) h3;have hk:=Dq (by simp) hL;have hc:=Ac (by simp) hL;have hx1:0≤x1∧x1≤65535:=by simpa[Lit.wf,IntKind.min,IntKind.max,IntKind.signed,IntKind.bits]using w1
 have hx2:0≤x2∧x2≤65535:=by simpa[Lit.wf,IntKind.min,IntKind.max,IntKind.signed,IntKind.bits]using w2
 obtain⟨N,last,o,w',t',e1,e2,e3,e4⟩:=TG (P:=Tryz.prog) (wa:=W) (args:=#[.agg (l.bn b),.int .u16 x1,.int .u16 x2,.agg #[.int .i64 m.kind,.int .i64 m.day,.int .i64 m.bg,.int .i64 m.amount,.int .i64 m.cas]]) Tryz.func7 rfl (by kernel_rfl) λw hcell hs hlim=>
  law7 hx1.1 hx1.2 hx2.1 hx2.2 (hbk.cells hcell hs) hcap (λj v hj=>(hcell _).trans (hc j v hj)) (λj v hj=>(hcell _).trans (hk j v hj)) (by rw[hlim,hs];exact ak _)
 exact⟨N,last,o,w',t',e1,e2,e3,e4.mono λv hv=>by
  obtain⟨rfl,hb⟩:=hv;exact Qh rfl rfl (by kernel_rfl) (λl hl=>by match l,hl with | [_,_,_,_],_=>exact⟨rfl,rfl,rfl⟩) hW' rfl hb⟩
theorem xw:Rows.FeeOpposedSaid:=
 OpenClaim.holds_of_wide_leaving 7 Tryz.f7 rfl rfl rfl rfl rfl rfl rfl ⟨rfl,rfl,rfl,rfl,rfl⟩ rfl rfl rfl rfl rfl Jc Tryz.func7 PG k7_inst k7_wrap
  (λos started H enc _=>wu os started H enc)
theorem feeOpposed_card:Rows.FeeOpposedCardSaid:=
 OE [.data,.funcsDeep,.funcs,.pinned] true (true, "2b3833b37c59463e22f25a6b7d36a15fd743a6e422ab7f52625749c65d5d1d7e") false xw (by kernel_rfl) feeOpposed_row_tie rfl ⟨rfl,rfl⟩ (by kernel_rfl) rfl
  (λf fn hf hfn=>by
   obtain rfl:f=7:=Option.some.inj (Jc.symm.trans hf) |>.symm;obtain rfl:fn=Tryz.f7:=(Option.some.inj (Tryz.func7.symm.trans hfn)).symm;exact⟨by kernel_rfl,λj t ht=>by
    rw[Tryz.params7]at ht;have hm:t∈[27,38,38,93]:=by simpa using Array.mem_of_getElem? ht
    have hall:([27,38,38,93].all λu=>!Tryz.prog.wantsStandIn u)=true:=by kernel_rfl
    exact(show Tryz.prog.wantsStandIn t=false by simpa using List.all_eq_true.1 hall t hm)⟩)
  (by kernel_rfl)
end

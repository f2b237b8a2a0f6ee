/- The closed facts of a row, one theorem each (feeCasesRow). PRINTED BY A PROGRAM (z7.py). -/
import Derived.Test.YtnkejaohnhpbpaaGreatDoorTie
import Derived.Test.YtnkejaohnhpbpaaGreatDoorCards
import Derived.JoinedOf
import Derived.Conc.Holds
import Derived.Test.YtnkejaohnhpbpaaGreatDoorA39
import Derived.Test.YtnkejaohnhpbpaaGreatDoorA78
set_option linter.all false
section
namespace Go.Proofs.YtnkejaohnhpbpaaGreatDoor
open Go
theorem dP{a b:Bool}(h:a=true)(k:b=true):(a&&b)=true:=by rw[h,k];rfl
set_option maxRecDepth 100000
theorem k3_k0:(Rows.feeCasesRow.wf (OpenSpec.ofChange Rows.feeCasesSpec))=true:=by kernel_rfl
theorem k3_k1:(laidOutB Tryz.pinned.checked.prog)=true:=by kernel_rfl
theorem k3_k2:(mapsRowed Tryz.pinned.checked.prog)=true:=by kernel_rfl
theorem k3_k3:(Tryz.f3.params.all (Tryz.pinned.checked.prog.readableRec ·))=true:=by kernel_rfl
theorem k3_k4:(namedTie Tryz.pinned.checked.prog Rows.feeCasesRow.named Rows.feeCasesSpec.vars)=true:=by kernel_rfl
theorem k3_k5:((Rows.feeCasesRow.stops==[]))=true:=by kernel_rfl
theorem k3_k6:((Tryz.pinned.checked.prog.stops==[]))=true:=by kernel_rfl
theorem k3_k7:((Rows.feeCasesRow.knobs==[]))=true:=by kernel_rfl
theorem k3_k8:((Tryz.pinned.checked.prog.stopKnobs==[]))=true:=by kernel_rfl
theorem k3_k9:((Rows.feeCasesRow.inPlace==Tryz.pinned.checked.prog.inPlace 3))=true:=by kernel_rfl
theorem k3_k10:((Rows.feeCasesRow.unfollowed==Tryz.pinned.checked.prog.unfollowed 3))=true:=by kernel_rfl
theorem k3_k11:((Rows.feeCasesRow.recurses==Tryz.pinned.checked.prog.recurses 3))=true:=by kernel_rfl
theorem k3_k12:((Rows.feeCasesRow.named==Tryz.pinned.checked.prog.varsNamed 3))=true:=by kernel_rfl
theorem k3_k13:((Rows.feeCasesRow.maps==(Tryz.f3.params.toList++Rows.feeCasesSpec.plain.varTypes Tryz.pinned.checked.prog).any (Tryz.pinned.checked.prog.mapsRec ·)))=true:=by kernel_rfl
theorem k3_k14:((Rows.feeCasesRow.ifaces==(Tryz.f3.params.toList++Rows.feeCasesSpec.plain.varTypes Tryz.pinned.checked.prog).any (Tryz.pinned.checked.prog.ifacesRec ·)))=true:=by kernel_rfl
theorem k3_k15:((Rows.feeCasesRow.mapsOut==Tryz.pinned.checked.prog.mapsAmong Tryz.f3.resultTypes.toList))=true:=by kernel_rfl
theorem k3_k16:((Rows.feeCasesRow.loops==(Tryz.f3.params.toList++Rows.feeCasesSpec.plain.varTypes Tryz.pinned.checked.prog).any (Tryz.pinned.checked.prog.loopsFrom ·)))=true:=by kernel_rfl
theorem k3_k17:((Rows.feeCasesRow.wideKeys==(Tryz.f3.params.toList++Rows.feeCasesSpec.plain.varTypes Tryz.pinned.checked.prog++Tryz.f3.resultTypes.toList).any (Tryz.pinned.checked.prog.wideKeysFrom ·)))=true:=by kernel_rfl
theorem k3_k18:(Rows.feeCasesSpec.vars.all (Tryz.pinned.checked.prog.varReadable ·))=true:=by kernel_rfl
theorem k3_k19:(Tryz.f3.resultTypes.all (λt=>Tryz.pinned.checked.prog.readableRec t&&decide (t<Tryz.pinned.checked.prog.types.size)))=true:=by kernel_rfl
theorem k3_k20:((Rows.feeCasesRow.ifacesOut==Tryz.f3.resultTypes.toList.any (Tryz.pinned.checked.prog.ifacesRec ·)))=true:=by kernel_rfl
theorem k3_k21:((Rows.feeCasesRow.loopsOut==Tryz.f3.resultTypes.toList.any (Tryz.pinned.checked.prog.loopsFrom ·)))=true:=by kernel_rfl
theorem k3_k22:((Rows.feeCasesRow.plainKeys==Tryz.pinned.checked.prog.plainKeys))=true:=by kernel_rfl
theorem k3_k23:(Rows.feeCasesRow.shortTexts.isNone)=true:=by kernel_rfl
theorem k3_k24:(Tryz.pinned.checked.prog.stopsHeard)=true:=by kernel_rfl
theorem k3_k25:(Tryz.pinned.checked.prog.mayEnter)=true:=by kernel_rfl
theorem k3_k26:((Rows.feeCasesRow.lifted==Tryz.pinned.checked.prog.liftsFinal))=true:=by kernel_rfl
theorem k3_k27:((Tryz.pinned.checked.prog.make==some Rows.feeCasesRow.make))=true:=by kernel_rfl
theorem k3_k28:((Rows.feeCasesRow.kinds==(if Rows.feeCasesRow.domain.isEmpty then[]else Tryz.f3.params.toList.map λt=>match Tryz.pinned.checked.prog.underlying t with|some (.int k)=>some k|_=>none)))=true:=by kernel_rfl
theorem k3_k29:((Rows.feeCasesRow.pinned==Rows.feeCasesRow.pinnedBy))=true:=by kernel_rfl
theorem k3_k30:((Rows.feeCasesRow.veiled==(Tryz.f3.params.toList++Rows.feeCasesSpec.plain.varTypes Tryz.pinned.checked.prog++Tryz.f3.resultTypes.toList).any (Tryz.pinned.checked.prog.veiledRec ·)))=true:=by kernel_rfl
theorem k3_k31:(Rows.feeCasesRow.veiledFits Tryz.pinned.checked.prog Tryz.f3.params.toList (Tryz.f3.params.toList++Rows.feeCasesSpec.plain.varTypes Tryz.pinned.checked.prog++Tryz.f3.resultTypes.toList))=true:=by kernel_rfl
theorem KQ:joinedFacts Tryz.pinned.checked.prog 3 Tryz.f3 Rows.feeCasesSpec Rows.feeCasesRow=true:=dP (dP (dP (dP (dP (dP (dP (dP (dP (dP (dP (dP (dP (dP (dP (dP (dP (dP (dP (dP (dP (dP (dP (dP (dP (dP (dP (dP (dP (dP (dP (k3_k0) k3_k1) k3_k2) k3_k3) k3_k4) k3_k5) k3_k6) k3_k7) k3_k8) k3_k9) k3_k10) k3_k11) k3_k12) k3_k13) k3_k14) k3_k15) k3_k16) k3_k17) k3_k18) k3_k19) k3_k20) k3_k21) k3_k22) k3_k23) k3_k24) k3_k25) k3_k26) k3_k27) k3_k28) k3_k29) k3_k30) k3_k31
theorem Fe:Tryz.pinned.checked.prog.funcNamed Rows.feeCasesRow.func=some 3:=by kernel_rfl
theorem k3_inst:Tryz.f3.isInstance Tryz.pinned.checked.prog Rows.feeCasesRow.origin Rows.feeCasesRow.targs:=of_decide_eq_true (by kernel_rfl)
theorem k3_wrap:Tryz.f3.isWrapper Tryz.pinned.checked.prog Rows.feeCasesRow.wrapper Rows.feeCasesRow.mainSum:=by unfold Func.isWrapper;first|(rw[if_pos (by decide +kernel)];kernel_rfl)|(rw[if_neg (by decide +kernel)];exact⟨rfl,rfl⟩)
end Go.Proofs.YtnkejaohnhpbpaaGreatDoor
end
section
namespace Go.Proofs.YtnkejaohnhpbpaaGreatDoor
open Go Go.Conc Go.RowKit Go.ChangeShapes Go.WideShapes Lift
set_option maxRecDepth 100000 in
theorem x9(os:Os)(started:os.Started)(H:Type)(enc:TypeId×Value→H) :
  ReturnsInLeavingWide {} Tryz.checked os 3 .any (λw args=>(Rows.feeCasesSpec.pre enc Tryz.prog Tryz.f3 [] false w args∧laidMetH Tryz.prog laidAll w)∧sizedMet enc Tryz.prog Tryz.f3 (OpenSpec.ofChange Rows.feeCasesSpec) false w args)
   (Rows.feeCasesSpec.post enc Tryz.prog Tryz.f3 false true false false):=by
 refine yc (C:=Tryz.checked) (X:=λw _=>laidMetH Tryz.prog laidAll w) (λ_ _ _ hh h=>h.of_heap hh) own started Tryz.func3
  (ChangeSpec.witness_shaped (enc:=enc) (C:=Tryz.checked) (os:=os) (X:=λw _=>laidMetH Tryz.prog laidAll w) false (L6 os) #[.agg #[.slice none 0 0,.slice none 0 0,.slice none 0 0,.slice none 0 0],.int .i64 0,.int .i64 0] 3 (wit_os os) (Jk os _) (by kernel_rfl) (by kernel_rfl) (by kernel_rfl) (door_met os _)) ?_
 intro W base args ds gs before hval0 hW hL;have hval:∀(j:Nat) t v,Tryz.f3.params[j]?=some t→args[j]?=some v→Value.okWide Tryz.prog W .any base t v:=hval0;have hW':=hW;obtain⟨p,q,hA0,hV,rfl,_,_⟩:=hW;have hA:DataW.TrodAll enc Tryz.prog W 0 (λ_=>true) true Tryz.f3.params.toList args.toList ds p:=hA0;rw[Tryz.params3]at hA hval;obtain⟨v0,v1,v2,d0,d1,d2,p0,p1,p2,rfl,rfl,rfl,h0,h1,h2⟩:=trodAll_three hA;obtain⟨l,b,rfl,hcap,hbk⟩:=Ll (hval 0 27 v0 rfl rfl) h0;obtain⟨x1,rfl,-,-,w1⟩:=open_int Tryz.underlying3 (hval 1 3 v1 rfl rfl) h1;obtain⟨x2,rfl,-,-,w2⟩:=open_int Tryz.underlying3 (hval 2 3 v2 rfl rfl) h2;have hk:=AX hL;obtain⟨N,last,o,w',t',e1,e2,e3,e4⟩:=N7 (P:=Tryz.prog) (wa:=W) (args:=#[.agg (l.bW b),.int .i64 x1,.int .i64 x2]) Tryz.func3 rfl (by kernel_rfl) λw hcell hs hlim=>
  law3 (hbk.cells hcell hs) hcap (λj v hj=>(hcell _).trans (hk j v hj)) (by rw[hlim,hs];exact ay _)
 exact⟨N,last,o,w',t',e1,e2,e3,e4.mono λv hv=>by
  obtain⟨rfl,hb⟩:=hv;exact Lu rfl rfl (by kernel_rfl) (λl hl=>by match l,hl with | [_,_,_],_=>exact⟨rfl,rfl,rfl⟩) hW' rfl hb⟩
theorem y8:Rows.FeeCasesSaid:=
 OpenClaim.holds_of_wide_leaving 3 Tryz.f3 rfl rfl rfl rfl rfl rfl rfl ⟨rfl,rfl,rfl,rfl,rfl⟩ rfl rfl rfl rfl rfl Fe Tryz.func3 KQ k3_inst k3_wrap
  (λos started H enc _=>x9 os started H enc)
theorem feeCases_card:Rows.FeeCasesCardSaid:=
 JZ [.data,.funcsDeep,.pinned] true (true, "78367989f1779c6ad5062e28a7d61523e937c9c2f303a8adb35e256f7f7bb139") false y8 (by kernel_rfl) feeCases_row_tie rfl ⟨rfl,rfl⟩ (by kernel_rfl) rfl
  (λf fn hf hfn=>by
   obtain rfl:f=3:=Option.some.inj (Fe.symm.trans hf) |>.symm;obtain rfl:fn=Tryz.f3:=(Option.some.inj (Tryz.func3.symm.trans hfn)).symm;exact⟨by kernel_rfl,λj t ht=>by
    rw[Tryz.params3]at ht;have hm:t∈[27,3,3]:=by simpa using Array.mem_of_getElem? ht
    have hall:([27,3,3].all λu=>!Tryz.prog.wantsStandIn u)=true:=by kernel_rfl
    exact(show Tryz.prog.wantsStandIn t=false by simpa using List.all_eq_true.1 hall t hm)⟩)
  (by kernel_rfl)
end Go.Proofs.YtnkejaohnhpbpaaGreatDoor
end

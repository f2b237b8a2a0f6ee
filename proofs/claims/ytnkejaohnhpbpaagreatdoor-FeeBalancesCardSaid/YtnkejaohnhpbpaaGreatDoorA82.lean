/- The closed facts of a row, one theorem each (feeBalancesRow). PRINTED BY A PROGRAM (z7.py). -/
import Derived.Test.YtnkejaohnhpbpaaGreatDoorTie
import Derived.Test.YtnkejaohnhpbpaaGreatDoorCards
import Derived.JoinedOf
import Derived.Conc.Holds
import Derived.Test.YtnkejaohnhpbpaaGreatDoorA39
import Derived.Test.YtnkejaohnhpbpaaGreatDoorA81
set_option linter.all false
section
namespace Go.Proofs.YtnkejaohnhpbpaaGreatDoor
open Go
theorem dN{a b:Bool}(h:a=true)(k:b=true):(a&&b)=true:=by rw[h,k];rfl
set_option maxRecDepth 100000
theorem k4_k0:(Rows.feeBalancesRow.wf (OpenSpec.ofChange Rows.feeBalancesSpec))=true:=by kernel_rfl
theorem k4_k1:(laidOutB Tryz.pinned.checked.prog)=true:=by kernel_rfl
theorem k4_k2:(mapsRowed Tryz.pinned.checked.prog)=true:=by kernel_rfl
theorem k4_k3:(Tryz.f4.params.all (Tryz.pinned.checked.prog.readableRec ·))=true:=by kernel_rfl
theorem k4_k4:(namedTie Tryz.pinned.checked.prog Rows.feeBalancesRow.named Rows.feeBalancesSpec.vars)=true:=by kernel_rfl
theorem k4_k5:((Rows.feeBalancesRow.stops==[]))=true:=by kernel_rfl
theorem k4_k6:((Tryz.pinned.checked.prog.stops==[]))=true:=by kernel_rfl
theorem k4_k7:((Rows.feeBalancesRow.knobs==[]))=true:=by kernel_rfl
theorem k4_k8:((Tryz.pinned.checked.prog.stopKnobs==[]))=true:=by kernel_rfl
theorem k4_k9:((Rows.feeBalancesRow.inPlace==Tryz.pinned.checked.prog.inPlace 4))=true:=by kernel_rfl
theorem k4_k10:((Rows.feeBalancesRow.unfollowed==Tryz.pinned.checked.prog.unfollowed 4))=true:=by kernel_rfl
theorem k4_k11:((Rows.feeBalancesRow.recurses==Tryz.pinned.checked.prog.recurses 4))=true:=by kernel_rfl
theorem k4_k12:((Rows.feeBalancesRow.named==Tryz.pinned.checked.prog.varsNamed 4))=true:=by kernel_rfl
theorem k4_k13:((Rows.feeBalancesRow.maps==(Tryz.f4.params.toList++Rows.feeBalancesSpec.plain.varTypes Tryz.pinned.checked.prog).any (Tryz.pinned.checked.prog.mapsRec ·)))=true:=by kernel_rfl
theorem k4_k14:((Rows.feeBalancesRow.ifaces==(Tryz.f4.params.toList++Rows.feeBalancesSpec.plain.varTypes Tryz.pinned.checked.prog).any (Tryz.pinned.checked.prog.ifacesRec ·)))=true:=by kernel_rfl
theorem k4_k15:((Rows.feeBalancesRow.mapsOut==Tryz.pinned.checked.prog.mapsAmong Tryz.f4.resultTypes.toList))=true:=by kernel_rfl
theorem k4_k16:((Rows.feeBalancesRow.loops==(Tryz.f4.params.toList++Rows.feeBalancesSpec.plain.varTypes Tryz.pinned.checked.prog).any (Tryz.pinned.checked.prog.loopsFrom ·)))=true:=by kernel_rfl
theorem k4_k17:((Rows.feeBalancesRow.wideKeys==(Tryz.f4.params.toList++Rows.feeBalancesSpec.plain.varTypes Tryz.pinned.checked.prog++Tryz.f4.resultTypes.toList).any (Tryz.pinned.checked.prog.wideKeysFrom ·)))=true:=by kernel_rfl
theorem k4_k18:(Rows.feeBalancesSpec.vars.all (Tryz.pinned.checked.prog.varReadable ·))=true:=by kernel_rfl
theorem k4_k19:(Tryz.f4.resultTypes.all (λt=>Tryz.pinned.checked.prog.readableRec t&&decide (t<Tryz.pinned.checked.prog.types.size)))=true:=by kernel_rfl
theorem k4_k20:((Rows.feeBalancesRow.ifacesOut==Tryz.f4.resultTypes.toList.any (Tryz.pinned.checked.prog.ifacesRec ·)))=true:=by kernel_rfl
theorem k4_k21:((Rows.feeBalancesRow.loopsOut==Tryz.f4.resultTypes.toList.any (Tryz.pinned.checked.prog.loopsFrom ·)))=true:=by kernel_rfl
theorem k4_k22:((Rows.feeBalancesRow.plainKeys==Tryz.pinned.checked.prog.plainKeys))=true:=by kernel_rfl
theorem k4_k23:(Rows.feeBalancesRow.shortTexts.isNone)=true:=by kernel_rfl
theorem k4_k24:(Tryz.pinned.checked.prog.stopsHeard)=true:=by kernel_rfl
theorem k4_k25:(Tryz.pinned.checked.prog.mayEnter)=true:=by kernel_rfl
theorem k4_k26:((Rows.feeBalancesRow.lifted==Tryz.pinned.checked.prog.liftsFinal))=true:=by kernel_rfl
theorem k4_k27:((Tryz.pinned.checked.prog.make==some Rows.feeBalancesRow.make))=true:=by kernel_rfl
theorem k4_k28:((Rows.feeBalancesRow.kinds==(if Rows.feeBalancesRow.domain.isEmpty then[]else Tryz.f4.params.toList.map λt=>match Tryz.pinned.checked.prog.underlying t with|some (.int k)=>some k|_=>none)))=true:=by kernel_rfl
theorem k4_k29:((Rows.feeBalancesRow.pinned==Rows.feeBalancesRow.pinnedBy))=true:=by kernel_rfl
theorem k4_k30:((Rows.feeBalancesRow.veiled==(Tryz.f4.params.toList++Rows.feeBalancesSpec.plain.varTypes Tryz.pinned.checked.prog++Tryz.f4.resultTypes.toList).any (Tryz.pinned.checked.prog.veiledRec ·)))=true:=by kernel_rfl
theorem k4_k31:(Rows.feeBalancesRow.veiledFits Tryz.pinned.checked.prog Tryz.f4.params.toList (Tryz.f4.params.toList++Rows.feeBalancesSpec.plain.varTypes Tryz.pinned.checked.prog++Tryz.f4.resultTypes.toList))=true:=by kernel_rfl
theorem KT:joinedFacts Tryz.pinned.checked.prog 4 Tryz.f4 Rows.feeBalancesSpec Rows.feeBalancesRow=true:=dN (dN (dN (dN (dN (dN (dN (dN (dN (dN (dN (dN (dN (dN (dN (dN (dN (dN (dN (dN (dN (dN (dN (dN (dN (dN (dN (dN (dN (dN (dN (k4_k0) k4_k1) k4_k2) k4_k3) k4_k4) k4_k5) k4_k6) k4_k7) k4_k8) k4_k9) k4_k10) k4_k11) k4_k12) k4_k13) k4_k14) k4_k15) k4_k16) k4_k17) k4_k18) k4_k19) k4_k20) k4_k21) k4_k22) k4_k23) k4_k24) k4_k25) k4_k26) k4_k27) k4_k28) k4_k29) k4_k30) k4_k31
theorem EY:Tryz.pinned.checked.prog.funcNamed Rows.feeBalancesRow.func=some 4:=by kernel_rfl
theorem k4_inst:Tryz.f4.isInstance Tryz.pinned.checked.prog Rows.feeBalancesRow.origin Rows.feeBalancesRow.targs:=of_decide_eq_true (by kernel_rfl)
theorem k4_wrap:Tryz.f4.isWrapper Tryz.pinned.checked.prog Rows.feeBalancesRow.wrapper Rows.feeBalancesRow.mainSum:=by unfold Func.isWrapper;first|(rw[if_pos (by decide +kernel)];kernel_rfl)|(rw[if_neg (by decide +kernel)];exact⟨rfl,rfl⟩)
end Go.Proofs.YtnkejaohnhpbpaaGreatDoor
end
section
namespace Go.Proofs.YtnkejaohnhpbpaaGreatDoor
open Go Go.Conc Go.RowKit Go.ChangeShapes Go.WideShapes Lift
set_option maxRecDepth 100000 in
theorem tV(os:Os)(started:os.Started)(H:Type)(enc:TypeId×Value→H) :
  ReturnsInLeavingWide {} Tryz.checked os 4 .any (λw args=>(Rows.feeBalancesSpec.pre enc Tryz.prog Tryz.f4 [] false w args∧laidMetH Tryz.prog laidAll w)∧sizedMet enc Tryz.prog Tryz.f4 (OpenSpec.ofChange Rows.feeBalancesSpec) false w args)
   (Rows.feeBalancesSpec.post enc Tryz.prog Tryz.f4 false true false false):=by
 refine xY (C:=Tryz.checked) (X:=λw _=>laidMetH Tryz.prog laidAll w) (λ_ _ _ hh h=>h.of_heap hh) own started Tryz.func4
  (ChangeSpec.witness_shaped (enc:=enc) (C:=Tryz.checked) (os:=os) (X:=λw _=>laidMetH Tryz.prog laidAll w) false (L9 os) #[.agg #[.slice none 0 0,.slice none 0 0,.slice none 0 0,.slice none 0 0],.int .i64 0,.int .i64 0] 4 (wit_os os) (Jk os _) (by kernel_rfl) (by kernel_rfl) (by kernel_rfl) (door_met os _)) ?_
 intro W base args ds gs before hval0 hW hL;have hval:∀(j:Nat) t v,Tryz.f4.params[j]?=some t→args[j]?=some v→Value.okWide Tryz.prog W .any base t v:=hval0;have hW':=hW;obtain⟨p,q,hA0,hV,rfl,_,_⟩:=hW;have hA:DataW.TrodAll enc Tryz.prog W 0 (λ_=>true) true Tryz.f4.params.toList args.toList ds p:=hA0;rw[Tryz.params4]at hA hval;obtain⟨v0,v1,v2,d0,d1,d2,p0,p1,p2,rfl,rfl,rfl,h0,h1,h2⟩:=trodAll_three hA;obtain⟨l,b,rfl,hcap,hbk⟩:=Lm (hval 0 27 v0 rfl rfl) h0;obtain⟨x1,rfl,-,-,w1⟩:=open_int Tryz.underlying3 (hval 1 3 v1 rfl rfl) h1;obtain⟨x2,rfl,-,-,w2⟩:=open_int Tryz.underlying3 (hval 2 3 v2 rfl rfl) h2;have hk:=Aw hL;obtain⟨N,last,o,w',t',e1,e2,e3,e4⟩:=N8 (P:=Tryz.prog) (wa:=W) (args:=#[.agg (l.bY b),.int .i64 x1,.int .i64 x2]) Tryz.func4 rfl (by kernel_rfl) λw hcell hs hlim=>
  law4 (hbk.cells hcell hs) hcap (λj v hj=>(hcell _).trans (hk j v hj)) (by rw[hlim,hs];exact ay _)
 exact⟨N,last,o,w',t',e1,e2,e3,e4.mono λv hv=>by
  obtain⟨rfl,hb⟩:=hv;exact LC rfl rfl (by kernel_rfl) (λl hl=>by match l,hl with | [_,_,_],_=>exact⟨rfl,rfl,rfl⟩) hW' rfl hb⟩
theorem uV:Rows.FeeBalancesSaid:=
 OpenClaim.holds_of_wide_leaving 4 Tryz.f4 rfl rfl rfl rfl rfl rfl rfl ⟨rfl,rfl,rfl,rfl,rfl⟩ rfl rfl rfl rfl rfl EY Tryz.func4 KT k4_inst k4_wrap
  (λos started H enc _=>tV os started H enc)
theorem feeBalances_card:Rows.FeeBalancesCardSaid:=
 J6 [.data,.funcsDeep,.pinned] true (true, "78367989f1779c6ad5062e28a7d61523e937c9c2f303a8adb35e256f7f7bb139") false uV (by kernel_rfl) feeBalances_row_tie rfl ⟨rfl,rfl⟩ (by kernel_rfl) rfl
  (λf fn hf hfn=>by
   obtain rfl:f=4:=Option.some.inj (EY.symm.trans hf) |>.symm;obtain rfl:fn=Tryz.f4:=(Option.some.inj (Tryz.func4.symm.trans hfn)).symm;exact⟨by kernel_rfl,λj t ht=>by
    rw[Tryz.params4]at ht;have hm:t∈[27,3,3]:=by simpa using Array.mem_of_getElem? ht
    have hall:([27,3,3].all λu=>!Tryz.prog.wantsStandIn u)=true:=by kernel_rfl
    exact(show Tryz.prog.wantsStandIn t=false by simpa using List.all_eq_true.1 hall t hm)⟩)
  (by kernel_rfl)
end Go.Proofs.YtnkejaohnhpbpaaGreatDoor
end

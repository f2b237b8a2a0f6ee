/- The closed facts of a row, one theorem each (feePlannedRow). PRINTED BY A PROGRAM (z7.py). -/
import Derived.Test.YtnkejaohnhpbpaaGreatDoorTie
import Derived.Test.YtnkejaohnhpbpaaGreatDoorCards
import Derived.JoinedOf
import Derived.Conc.Holds
import Derived.Test.YtnkejaohnhpbpaaGreatDoorA44
import Derived.Test.YtnkejaohnhpbpaaGreatDoorA76
set_option linter.all false
section
namespace Go.Proofs.YtnkejaohnhpbpaaGreatDoor
open Go
theorem k14_and {a b:Bool} (h:a = true) (k:b = true):(a && b) = true:=by rw [h,k];rfl
set_option maxRecDepth 100000
theorem k14_k0:(Rows.feePlannedRow.wf (OpenSpec.ofChange Rows.feePlannedSpec)) = true:=by kernel_rfl
theorem k14_k1:(laidOutB Tryz.pinned.checked.prog) = true:=by kernel_rfl
theorem k14_k2:(mapsRowed Tryz.pinned.checked.prog) = true:=by kernel_rfl
theorem k14_k3:(Tryz.f14.params.all (Tryz.pinned.checked.prog.readableRec ·)) = true:=by kernel_rfl
theorem k14_k4:(namedTie Tryz.pinned.checked.prog Rows.feePlannedRow.named Rows.feePlannedSpec.vars) = true:=by kernel_rfl
theorem k14_k5:((Rows.feePlannedRow.stops == [])) = true:=by kernel_rfl
theorem k14_k6:((Tryz.pinned.checked.prog.stops == [])) = true:=by kernel_rfl
theorem k14_k7:((Rows.feePlannedRow.knobs == [])) = true:=by kernel_rfl
theorem k14_k8:((Tryz.pinned.checked.prog.stopKnobs == [])) = true:=by kernel_rfl
theorem k14_k9:((Rows.feePlannedRow.inPlace == Tryz.pinned.checked.prog.inPlace 14)) = true:=by kernel_rfl
theorem k14_k10:((Rows.feePlannedRow.unfollowed == Tryz.pinned.checked.prog.unfollowed 14)) = true:=by kernel_rfl
theorem k14_k11:((Rows.feePlannedRow.recurses == Tryz.pinned.checked.prog.recurses 14)) = true:=by kernel_rfl
theorem k14_k12:((Rows.feePlannedRow.named == Tryz.pinned.checked.prog.varsNamed 14)) = true:=by kernel_rfl
theorem k14_k13:((Rows.feePlannedRow.maps == (Tryz.f14.params.toList ++ Rows.feePlannedSpec.plain.varTypes Tryz.pinned.checked.prog).any (Tryz.pinned.checked.prog.mapsRec ·))) = true:=by kernel_rfl
theorem k14_k14:((Rows.feePlannedRow.ifaces == (Tryz.f14.params.toList ++ Rows.feePlannedSpec.plain.varTypes Tryz.pinned.checked.prog).any (Tryz.pinned.checked.prog.ifacesRec ·))) = true:=by kernel_rfl
theorem k14_k15:((Rows.feePlannedRow.mapsOut == Tryz.pinned.checked.prog.mapsAmong Tryz.f14.resultTypes.toList)) = true:=by kernel_rfl
theorem k14_k16:((Rows.feePlannedRow.loops == (Tryz.f14.params.toList ++ Rows.feePlannedSpec.plain.varTypes Tryz.pinned.checked.prog).any (Tryz.pinned.checked.prog.loopsFrom ·))) = true:=by kernel_rfl
theorem k14_k17:((Rows.feePlannedRow.wideKeys == (Tryz.f14.params.toList ++ Rows.feePlannedSpec.plain.varTypes Tryz.pinned.checked.prog ++ Tryz.f14.resultTypes.toList).any (Tryz.pinned.checked.prog.wideKeysFrom ·))) = true:=by kernel_rfl
theorem k14_k18:(Rows.feePlannedSpec.vars.all (Tryz.pinned.checked.prog.varReadable ·)) = true:=by kernel_rfl
theorem k14_k19:(Tryz.f14.resultTypes.all (fun t => Tryz.pinned.checked.prog.readableRec t && decide (t < Tryz.pinned.checked.prog.types.size))) = true:=by kernel_rfl
theorem k14_k20:((Rows.feePlannedRow.ifacesOut == Tryz.f14.resultTypes.toList.any (Tryz.pinned.checked.prog.ifacesRec ·))) = true:=by kernel_rfl
theorem k14_k21:((Rows.feePlannedRow.loopsOut == Tryz.f14.resultTypes.toList.any (Tryz.pinned.checked.prog.loopsFrom ·))) = true:=by kernel_rfl
theorem k14_k22:((Rows.feePlannedRow.plainKeys == Tryz.pinned.checked.prog.plainKeys)) = true:=by kernel_rfl
theorem k14_k23:(Rows.feePlannedRow.shortTexts.isNone) = true:=by kernel_rfl
theorem k14_k24:(Tryz.pinned.checked.prog.stopsHeard) = true:=by kernel_rfl
theorem k14_k25:(Tryz.pinned.checked.prog.mayEnter) = true:=by kernel_rfl
theorem k14_k26:((Rows.feePlannedRow.lifted == Tryz.pinned.checked.prog.liftsFinal)) = true:=by kernel_rfl
theorem k14_k27:((Tryz.pinned.checked.prog.make == some Rows.feePlannedRow.make)) = true:=by kernel_rfl
theorem k14_k28:((Rows.feePlannedRow.kinds == (if Rows.feePlannedRow.domain.isEmpty then [] else Tryz.f14.params.toList.map fun t => match Tryz.pinned.checked.prog.underlying t with | some (.int k) => some k | _ => none))) = true:=by kernel_rfl
theorem k14_k29:((Rows.feePlannedRow.pinned == Rows.feePlannedRow.pinnedBy)) = true:=by kernel_rfl
theorem k14_k30:((Rows.feePlannedRow.veiled == (Tryz.f14.params.toList ++ Rows.feePlannedSpec.plain.varTypes Tryz.pinned.checked.prog ++ Tryz.f14.resultTypes.toList).any (Tryz.pinned.checked.prog.veiledRec ·))) = true:=by kernel_rfl
theorem k14_k31:(Rows.feePlannedRow.veiledFits Tryz.pinned.checked.prog Tryz.f14.params.toList (Tryz.f14.params.toList ++ Rows.feePlannedSpec.plain.varTypes Tryz.pinned.checked.prog ++ Tryz.f14.resultTypes.toList)) = true:=by kernel_rfl
theorem k14_closed:joinedFacts Tryz.pinned.checked.prog 14 Tryz.f14 Rows.feePlannedSpec Rows.feePlannedRow = true:=k14_and (k14_and (k14_and (k14_and (k14_and (k14_and (k14_and (k14_and (k14_and (k14_and (k14_and (k14_and (k14_and (k14_and (k14_and (k14_and (k14_and (k14_and (k14_and (k14_and (k14_and (k14_and (k14_and (k14_and (k14_and (k14_and (k14_and (k14_and (k14_and (k14_and (k14_and (k14_k0) k14_k1) k14_k2) k14_k3) k14_k4) k14_k5) k14_k6) k14_k7) k14_k8) k14_k9) k14_k10) k14_k11) k14_k12) k14_k13) k14_k14) k14_k15) k14_k16) k14_k17) k14_k18) k14_k19) k14_k20) k14_k21) k14_k22) k14_k23) k14_k24) k14_k25) k14_k26) k14_k27) k14_k28) k14_k29) k14_k30) k14_k31
theorem k14_named:Tryz.pinned.checked.prog.funcNamed Rows.feePlannedRow.func = some 14:=by kernel_rfl
theorem k14_inst:Tryz.f14.isInstance Tryz.pinned.checked.prog Rows.feePlannedRow.origin Rows.feePlannedRow.targs:=of_decide_eq_true (by kernel_rfl)
theorem k14_wrap:Tryz.f14.isWrapper Tryz.pinned.checked.prog Rows.feePlannedRow.wrapper Rows.feePlannedRow.mainSum:=by unfold Func.isWrapper;first | (rw [if_pos (by decide +kernel)];kernel_rfl) | (rw [if_neg (by decide +kernel)];exact ⟨rfl,rfl⟩)
end Go.Proofs.YtnkejaohnhpbpaaGreatDoor
end
section
namespace Go.Proofs.YtnkejaohnhpbpaaGreatDoor
open Go Go.Conc Go.RowKit Go.ChangeShapes Go.WideShapes Lift
set_option maxRecDepth 100000 in
theorem feePlanned_lifted (os:Os) (started:os.Started) (H:Type) (enc:TypeId × Value → H) :
  ReturnsInLeavingWide {} Tryz.checked os 14 .any (fun w args => (Rows.feePlannedSpec.pre enc Tryz.prog Tryz.f14 [] false w args ∧ laidMetH Tryz.prog laidAll w) ∧ sizedMet enc Tryz.prog Tryz.f14 (OpenSpec.ofChange Rows.feePlannedSpec) false w args)
   (Rows.feePlannedSpec.post enc Tryz.prog Tryz.f14 false true false false):=by
 refine leaving_of_runs (C:=Tryz.checked) (X:=fun w _ => laidMetH Tryz.prog laidAll w) (fun _ _ _ hh h => h.of_heap hh) own started Tryz.func14
  (ChangeSpec.witness_shaped (enc:=enc) (C:=Tryz.checked) (os:=os) (X:=fun w _ => laidMetH Tryz.prog laidAll w) false (witW os) #[.agg #[.slice none 0 0,.slice none 0 0,.slice none 0 0,.slice none 0 0],.int .u16 0] 14 (wit_os os) (wit_shaped os _) (by kernel_rfl) (by kernel_rfl) (by kernel_rfl) (door_met os _)) ?_
 intro W base args ds gs before hval0 hW hL;have hval:∀ (j:Nat) t v,Tryz.f14.params[j]? = some t → args[j]? = some v → Value.okWide Tryz.prog W .any base t v:=hval0;have hW':=hW;obtain ⟨p,q,hA0,hV,rfl,_,_⟩:=hW;have hA:DataW.TrodAll enc Tryz.prog W 0 (fun _ => true) true Tryz.f14.params.toList args.toList ds p:=hA0;rw [Tryz.params14] at hA hval;obtain ⟨v0,v1,d0,d1,p0,p1,rfl,rfl,rfl,h0,h1⟩:=trodAll_two hA;obtain ⟨l,b,rfl,hcap,hbk⟩:=open_book (hval 0 27 v0 rfl rfl) h0;obtain ⟨x1,rfl,-,-,w1⟩:=open_int Tryz.underlying53 (hval 1 53 v1 rfl rfl) h1;have hk:=kinds_of_laid hL;have hx1:0 ≤ x1 ∧ x1 ≤ 65535:=by simpa [Lit.wf,IntKind.min,IntKind.max,IntKind.signed,IntKind.bits] using w1
 obtain ⟨N,last,o,w',t',e1,e2,e3,e4⟩:=law_ends (P:=Tryz.prog) (wa:=W) (args:=#[.agg (l.rarr b),.int .u16 x1]) Tryz.func14 rfl (by kernel_rfl) fun w hcell hs hlim =>
  law14 (hbk.cells hcell hs) hcap (fun j v hj => (hcell _).trans (hk j v hj)) (by rw [hlim,hs];exact Nat.le_refl _) hx1.1 hx1.2
 exact ⟨N,last,o,w',t',e1,e2,e3,e4.mono fun v hv => by
  obtain ⟨rfl,hb⟩:=hv;exact post_true rfl rfl (by kernel_rfl) (fun l hl => by match l,hl with | [_,_],_ => exact ⟨rfl,rfl,rfl⟩) hW' rfl hb⟩
theorem feePlanned_holds:Rows.FeePlannedSaid:=
 OpenClaim.holds_of_wide_leaving 14 Tryz.f14 rfl rfl rfl rfl rfl rfl rfl ⟨rfl,rfl,rfl,rfl,rfl⟩ rfl rfl rfl rfl rfl k14_named Tryz.func14 k14_closed k14_inst k14_wrap
  (fun os started H enc _ => feePlanned_lifted os started H enc)
theorem feePlanned_card:Rows.FeePlannedCardSaid:=
 card_goes [.data,.funcsDeep,.pinned] true (true, "78367989f1779c6ad5062e28a7d61523e937c9c2f303a8adb35e256f7f7bb139") false feePlanned_holds (by kernel_rfl) feePlanned_row_tie rfl ⟨rfl,rfl⟩ (by kernel_rfl) rfl
  (fun f fn hf hfn => by
   obtain rfl:f = 14:=Option.some.inj (k14_named.symm.trans hf) |>.symm;obtain rfl:fn = Tryz.f14:=(Option.some.inj (Tryz.func14.symm.trans hfn)).symm;exact ⟨by kernel_rfl,fun j t ht => by
    rw [Tryz.params14] at ht;have hm:t ∈ [27,53]:=by simpa using Array.mem_of_getElem? ht
    have hall:([27,53].all fun u => !Tryz.prog.wantsStandIn u) = true:=by kernel_rfl
    exact (show Tryz.prog.wantsStandIn t = false by simpa using List.all_eq_true.1 hall t hm)⟩)
  (by kernel_rfl)
end Go.Proofs.YtnkejaohnhpbpaaGreatDoor
end

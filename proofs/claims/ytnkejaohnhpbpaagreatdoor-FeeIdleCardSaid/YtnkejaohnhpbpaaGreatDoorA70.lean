/- The closed facts of a row, one theorem each (feeIdleRow). PRINTED BY A PROGRAM (z7.py). -/
import Derived.Test.YtnkejaohnhpbpaaGreatDoorTie
import Derived.Test.YtnkejaohnhpbpaaGreatDoorCards
import Derived.JoinedOf
import Derived.Conc.Holds
import Derived.Test.YtnkejaohnhpbpaaGreatDoorA44
import Derived.Test.YtnkejaohnhpbpaaGreatDoorA69
set_option linter.all false
section
namespace Go.Proofs.YtnkejaohnhpbpaaGreatDoor
open Go
theorem k13_and {a b:Bool} (h:a = true) (k:b = true):(a && b) = true:=by rw [h,k];rfl
set_option maxRecDepth 100000
theorem k13_k0:(Rows.feeIdleRow.wf (OpenSpec.ofChange Rows.feeIdleSpec)) = true:=by kernel_rfl
theorem k13_k1:(laidOutB Tryz.pinned.checked.prog) = true:=by kernel_rfl
theorem k13_k2:(mapsRowed Tryz.pinned.checked.prog) = true:=by kernel_rfl
theorem k13_k3:(Tryz.f13.params.all (Tryz.pinned.checked.prog.readableRec ·)) = true:=by kernel_rfl
theorem k13_k4:(namedTie Tryz.pinned.checked.prog Rows.feeIdleRow.named Rows.feeIdleSpec.vars) = true:=by kernel_rfl
theorem k13_k5:((Rows.feeIdleRow.stops == [])) = true:=by kernel_rfl
theorem k13_k6:((Tryz.pinned.checked.prog.stops == [])) = true:=by kernel_rfl
theorem k13_k7:((Rows.feeIdleRow.knobs == [])) = true:=by kernel_rfl
theorem k13_k8:((Tryz.pinned.checked.prog.stopKnobs == [])) = true:=by kernel_rfl
theorem k13_k9:((Rows.feeIdleRow.inPlace == Tryz.pinned.checked.prog.inPlace 13)) = true:=by kernel_rfl
theorem k13_k10:((Rows.feeIdleRow.unfollowed == Tryz.pinned.checked.prog.unfollowed 13)) = true:=by kernel_rfl
theorem k13_k11:((Rows.feeIdleRow.recurses == Tryz.pinned.checked.prog.recurses 13)) = true:=by kernel_rfl
theorem k13_k12:((Rows.feeIdleRow.named == Tryz.pinned.checked.prog.varsNamed 13)) = true:=by kernel_rfl
theorem k13_k13:((Rows.feeIdleRow.maps == (Tryz.f13.params.toList ++ Rows.feeIdleSpec.plain.varTypes Tryz.pinned.checked.prog).any (Tryz.pinned.checked.prog.mapsRec ·))) = true:=by kernel_rfl
theorem k13_k14:((Rows.feeIdleRow.ifaces == (Tryz.f13.params.toList ++ Rows.feeIdleSpec.plain.varTypes Tryz.pinned.checked.prog).any (Tryz.pinned.checked.prog.ifacesRec ·))) = true:=by kernel_rfl
theorem k13_k15:((Rows.feeIdleRow.mapsOut == Tryz.pinned.checked.prog.mapsAmong Tryz.f13.resultTypes.toList)) = true:=by kernel_rfl
theorem k13_k16:((Rows.feeIdleRow.loops == (Tryz.f13.params.toList ++ Rows.feeIdleSpec.plain.varTypes Tryz.pinned.checked.prog).any (Tryz.pinned.checked.prog.loopsFrom ·))) = true:=by kernel_rfl
theorem k13_k17:((Rows.feeIdleRow.wideKeys == (Tryz.f13.params.toList ++ Rows.feeIdleSpec.plain.varTypes Tryz.pinned.checked.prog ++ Tryz.f13.resultTypes.toList).any (Tryz.pinned.checked.prog.wideKeysFrom ·))) = true:=by kernel_rfl
theorem k13_k18:(Rows.feeIdleSpec.vars.all (Tryz.pinned.checked.prog.varReadable ·)) = true:=by kernel_rfl
theorem k13_k19:(Tryz.f13.resultTypes.all (fun t => Tryz.pinned.checked.prog.readableRec t && decide (t < Tryz.pinned.checked.prog.types.size))) = true:=by kernel_rfl
theorem k13_k20:((Rows.feeIdleRow.ifacesOut == Tryz.f13.resultTypes.toList.any (Tryz.pinned.checked.prog.ifacesRec ·))) = true:=by kernel_rfl
theorem k13_k21:((Rows.feeIdleRow.loopsOut == Tryz.f13.resultTypes.toList.any (Tryz.pinned.checked.prog.loopsFrom ·))) = true:=by kernel_rfl
theorem k13_k22:((Rows.feeIdleRow.plainKeys == Tryz.pinned.checked.prog.plainKeys)) = true:=by kernel_rfl
theorem k13_k23:(Rows.feeIdleRow.shortTexts.isNone) = true:=by kernel_rfl
theorem k13_k24:(Tryz.pinned.checked.prog.stopsHeard) = true:=by kernel_rfl
theorem k13_k25:(Tryz.pinned.checked.prog.mayEnter) = true:=by kernel_rfl
theorem k13_k26:((Rows.feeIdleRow.lifted == Tryz.pinned.checked.prog.liftsFinal)) = true:=by kernel_rfl
theorem k13_k27:((Tryz.pinned.checked.prog.make == some Rows.feeIdleRow.make)) = true:=by kernel_rfl
theorem k13_k28:((Rows.feeIdleRow.kinds == (if Rows.feeIdleRow.domain.isEmpty then [] else Tryz.f13.params.toList.map fun t => match Tryz.pinned.checked.prog.underlying t with | some (.int k) => some k | _ => none))) = true:=by kernel_rfl
theorem k13_k29:((Rows.feeIdleRow.pinned == Rows.feeIdleRow.pinnedBy)) = true:=by kernel_rfl
theorem k13_k30:((Rows.feeIdleRow.veiled == (Tryz.f13.params.toList ++ Rows.feeIdleSpec.plain.varTypes Tryz.pinned.checked.prog ++ Tryz.f13.resultTypes.toList).any (Tryz.pinned.checked.prog.veiledRec ·))) = true:=by kernel_rfl
theorem k13_k31:(Rows.feeIdleRow.veiledFits Tryz.pinned.checked.prog Tryz.f13.params.toList (Tryz.f13.params.toList ++ Rows.feeIdleSpec.plain.varTypes Tryz.pinned.checked.prog ++ Tryz.f13.resultTypes.toList)) = true:=by kernel_rfl
theorem k13_closed:joinedFacts Tryz.pinned.checked.prog 13 Tryz.f13 Rows.feeIdleSpec Rows.feeIdleRow = true:=k13_and (k13_and (k13_and (k13_and (k13_and (k13_and (k13_and (k13_and (k13_and (k13_and (k13_and (k13_and (k13_and (k13_and (k13_and (k13_and (k13_and (k13_and (k13_and (k13_and (k13_and (k13_and (k13_and (k13_and (k13_and (k13_and (k13_and (k13_and (k13_and (k13_and (k13_and (k13_k0) k13_k1) k13_k2) k13_k3) k13_k4) k13_k5) k13_k6) k13_k7) k13_k8) k13_k9) k13_k10) k13_k11) k13_k12) k13_k13) k13_k14) k13_k15) k13_k16) k13_k17) k13_k18) k13_k19) k13_k20) k13_k21) k13_k22) k13_k23) k13_k24) k13_k25) k13_k26) k13_k27) k13_k28) k13_k29) k13_k30) k13_k31
theorem k13_named:Tryz.pinned.checked.prog.funcNamed Rows.feeIdleRow.func = some 13:=by kernel_rfl
theorem k13_inst:Tryz.f13.isInstance Tryz.pinned.checked.prog Rows.feeIdleRow.origin Rows.feeIdleRow.targs:=of_decide_eq_true (by kernel_rfl)
theorem k13_wrap:Tryz.f13.isWrapper Tryz.pinned.checked.prog Rows.feeIdleRow.wrapper Rows.feeIdleRow.mainSum:=by unfold Func.isWrapper;first | (rw [if_pos (by decide +kernel)];kernel_rfl) | (rw [if_neg (by decide +kernel)];exact ⟨rfl,rfl⟩)
end Go.Proofs.YtnkejaohnhpbpaaGreatDoor
end
section
namespace Go.Proofs.YtnkejaohnhpbpaaGreatDoor
open Go Go.Conc Go.RowKit Go.ChangeShapes Go.WideShapes Lift
set_option maxRecDepth 100000 in
theorem feeIdle_lifted (os:Os) (started:os.Started) (H:Type) (enc:TypeId × Value → H) :
  ReturnsInLeavingWide {} Tryz.checked os 13 .any (fun w args => (Rows.feeIdleSpec.pre enc Tryz.prog Tryz.f13 [] false w args ∧ laidMetH Tryz.prog laidAll w) ∧ sizedMet enc Tryz.prog Tryz.f13 (OpenSpec.ofChange Rows.feeIdleSpec) false w args)
   (Rows.feeIdleSpec.post enc Tryz.prog Tryz.f13 false true false false):=by
 refine leaving_of_runs (C:=Tryz.checked) (X:=fun w _ => laidMetH Tryz.prog laidAll w) (fun _ _ _ hh h => h.of_heap hh) own started Tryz.func13
  (ChangeSpec.witness_shaped (enc:=enc) (C:=Tryz.checked) (os:=os) (X:=fun w _ => laidMetH Tryz.prog laidAll w) false (witW os) #[.agg #[.slice none 0 0,.slice none 0 0,.slice none 0 0,.slice none 0 0],.int .u16 0] 13 (wit_os os) (wit_shaped os _) (by kernel_rfl) (by kernel_rfl) (by kernel_rfl) (door_met os _)) ?_
 intro W base args ds gs before hval0 hW hL
 have hval:∀ (j:Nat) t v,Tryz.f13.params[j]? = some t → args[j]? = some v → Value.okWide Tryz.prog W .any base t v:=hval0
 have hW':=hW
 obtain ⟨p,q,hA0,hV,rfl,_,_⟩:=hW
 have hA:DataW.TrodAll enc Tryz.prog W 0 (fun _ => true) true Tryz.f13.params.toList args.toList ds p:=hA0
 rw [Tryz.params13] at hA hval
 obtain ⟨v0,v1,d0,d1,p0,p1,rfl,rfl,rfl,h0,h1⟩:=trodAll_two hA
 obtain ⟨l,b,rfl,hcap,hbk⟩:=open_book (hval 0 27 v0 rfl rfl) h0
 obtain ⟨x1,rfl,-,-,w1⟩:=open_int Tryz.underlying53 (hval 1 53 v1 rfl rfl) h1
 have hk:=kinds_of_laid hL
 have hx1:0 ≤ x1 ∧ x1 ≤ 65535:=by simpa [Lit.wf,IntKind.min,IntKind.max,IntKind.signed,IntKind.bits] using w1
 obtain ⟨N,last,o,w',t',e1,e2,e3,e4⟩:=law_ends (P:=Tryz.prog) (wa:=W) (args:=#[.agg (l.rarr b),.int .u16 x1]) Tryz.func13 rfl (by kernel_rfl) fun w hcell hs hlim =>
  law13 (hbk.cells hcell hs) hcap (fun j v hj => (hcell _).trans (hk j v hj)) (by rw [hlim,hs];exact Nat.le_refl _) hx1.1 hx1.2
 exact ⟨N,last,o,w',t',e1,e2,e3,e4.mono fun v hv => by
  obtain ⟨rfl,hb⟩:=hv
  exact post_true rfl rfl (by kernel_rfl) (fun l hl => by match l,hl with | [_,_],_ => exact ⟨rfl,rfl,rfl⟩) hW' rfl hb⟩
theorem feeIdle_holds:Rows.FeeIdleSaid:=
 OpenClaim.holds_of_wide_leaving 13 Tryz.f13 rfl rfl rfl rfl rfl rfl rfl ⟨rfl,rfl,rfl,rfl,rfl⟩ rfl rfl rfl rfl rfl k13_named Tryz.func13 k13_closed k13_inst k13_wrap
  (fun os started H enc _ => feeIdle_lifted os started H enc)
theorem feeIdle_card:Rows.FeeIdleCardSaid:=
 card_goes [.data,.funcsDeep,.pinned] true (true, "78367989f1779c6ad5062e28a7d61523e937c9c2f303a8adb35e256f7f7bb139") false feeIdle_holds (by kernel_rfl) feeIdle_row_tie rfl ⟨rfl,rfl⟩ (by kernel_rfl) rfl
  (fun f fn hf hfn => by
   obtain rfl:f = 13:=Option.some.inj (k13_named.symm.trans hf) |>.symm
   obtain rfl:fn = Tryz.f13:=(Option.some.inj (Tryz.func13.symm.trans hfn)).symm
   exact ⟨by kernel_rfl,fun j t ht => by
    rw [Tryz.params13] at ht
    have hm:t ∈ [27,53]:=by simpa using Array.mem_of_getElem? ht
    have hall:([27,53].all fun u => !Tryz.prog.wantsStandIn u) = true:=by kernel_rfl
    exact (show Tryz.prog.wantsStandIn t = false by simpa using List.all_eq_true.1 hall t hm)⟩)
  (by kernel_rfl)
end Go.Proofs.YtnkejaohnhpbpaaGreatDoor
end

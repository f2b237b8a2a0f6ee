/- The closed facts of a row, one theorem each (feeTakesRow). PRINTED BY A PROGRAM (z7.py). -/
import Derived.Test.YtnkejaohnhpbpaaGreatDoorTie
import Derived.Test.YtnkejaohnhpbpaaGreatDoorCards
import Derived.JoinedOf
import Derived.Conc.Holds
import Derived.Test.YtnkejaohnhpbpaaGreatDoorA44
import Derived.Test.YtnkejaohnhpbpaaGreatDoorA75
set_option linter.all false
section
namespace Go.Proofs.YtnkejaohnhpbpaaGreatDoor
open Go
theorem k7_and {a b:Bool} (h:a = true) (k:b = true):(a && b) = true:=by rw [h,k];rfl
set_option maxRecDepth 100000
theorem k7_k0:(Rows.feeTakesRow.wf (OpenSpec.ofChange Rows.feeTakesSpec)) = true:=by kernel_rfl
theorem k7_k1:(laidOutB Tryz.pinned.checked.prog) = true:=by kernel_rfl
theorem k7_k2:(mapsRowed Tryz.pinned.checked.prog) = true:=by kernel_rfl
theorem k7_k3:(Tryz.f7.params.all (Tryz.pinned.checked.prog.readableRec ·)) = true:=by kernel_rfl
theorem k7_k4:(namedTie Tryz.pinned.checked.prog Rows.feeTakesRow.named Rows.feeTakesSpec.vars) = true:=by kernel_rfl
theorem k7_k5:((Rows.feeTakesRow.stops == [])) = true:=by kernel_rfl
theorem k7_k6:((Tryz.pinned.checked.prog.stops == [])) = true:=by kernel_rfl
theorem k7_k7:((Rows.feeTakesRow.knobs == [])) = true:=by kernel_rfl
theorem k7_k8:((Tryz.pinned.checked.prog.stopKnobs == [])) = true:=by kernel_rfl
theorem k7_k9:((Rows.feeTakesRow.inPlace == Tryz.pinned.checked.prog.inPlace 7)) = true:=by kernel_rfl
theorem k7_k10:((Rows.feeTakesRow.unfollowed == Tryz.pinned.checked.prog.unfollowed 7)) = true:=by kernel_rfl
theorem k7_k11:((Rows.feeTakesRow.recurses == Tryz.pinned.checked.prog.recurses 7)) = true:=by kernel_rfl
theorem k7_k12:((Rows.feeTakesRow.named == Tryz.pinned.checked.prog.varsNamed 7)) = true:=by kernel_rfl
theorem k7_k13:((Rows.feeTakesRow.maps == (Tryz.f7.params.toList ++ Rows.feeTakesSpec.plain.varTypes Tryz.pinned.checked.prog).any (Tryz.pinned.checked.prog.mapsRec ·))) = true:=by kernel_rfl
theorem k7_k14:((Rows.feeTakesRow.ifaces == (Tryz.f7.params.toList ++ Rows.feeTakesSpec.plain.varTypes Tryz.pinned.checked.prog).any (Tryz.pinned.checked.prog.ifacesRec ·))) = true:=by kernel_rfl
theorem k7_k15:((Rows.feeTakesRow.mapsOut == Tryz.pinned.checked.prog.mapsAmong Tryz.f7.resultTypes.toList)) = true:=by kernel_rfl
theorem k7_k16:((Rows.feeTakesRow.loops == (Tryz.f7.params.toList ++ Rows.feeTakesSpec.plain.varTypes Tryz.pinned.checked.prog).any (Tryz.pinned.checked.prog.loopsFrom ·))) = true:=by kernel_rfl
theorem k7_k17:((Rows.feeTakesRow.wideKeys == (Tryz.f7.params.toList ++ Rows.feeTakesSpec.plain.varTypes Tryz.pinned.checked.prog ++ Tryz.f7.resultTypes.toList).any (Tryz.pinned.checked.prog.wideKeysFrom ·))) = true:=by kernel_rfl
theorem k7_k18:(Rows.feeTakesSpec.vars.all (Tryz.pinned.checked.prog.varReadable ·)) = true:=by kernel_rfl
theorem k7_k19:(Tryz.f7.resultTypes.all (fun t => Tryz.pinned.checked.prog.readableRec t && decide (t < Tryz.pinned.checked.prog.types.size))) = true:=by kernel_rfl
theorem k7_k20:((Rows.feeTakesRow.ifacesOut == Tryz.f7.resultTypes.toList.any (Tryz.pinned.checked.prog.ifacesRec ·))) = true:=by kernel_rfl
theorem k7_k21:((Rows.feeTakesRow.loopsOut == Tryz.f7.resultTypes.toList.any (Tryz.pinned.checked.prog.loopsFrom ·))) = true:=by kernel_rfl
theorem k7_k22:((Rows.feeTakesRow.plainKeys == Tryz.pinned.checked.prog.plainKeys)) = true:=by kernel_rfl
theorem k7_k23:(Rows.feeTakesRow.shortTexts.isNone) = true:=by kernel_rfl
theorem k7_k24:(Tryz.pinned.checked.prog.stopsHeard) = true:=by kernel_rfl
theorem k7_k25:(Tryz.pinned.checked.prog.mayEnter) = true:=by kernel_rfl
theorem k7_k26:((Rows.feeTakesRow.lifted == Tryz.pinned.checked.prog.liftsFinal)) = true:=by kernel_rfl
theorem k7_k27:((Tryz.pinned.checked.prog.make == some Rows.feeTakesRow.make)) = true:=by kernel_rfl
theorem k7_k28:((Rows.feeTakesRow.kinds == (if Rows.feeTakesRow.domain.isEmpty then [] else Tryz.f7.params.toList.map fun t => match Tryz.pinned.checked.prog.underlying t with | some (.int k) => some k | _ => none))) = true:=by kernel_rfl
theorem k7_k29:((Rows.feeTakesRow.pinned == Rows.feeTakesRow.pinnedBy)) = true:=by kernel_rfl
theorem k7_k30:((Rows.feeTakesRow.veiled == (Tryz.f7.params.toList ++ Rows.feeTakesSpec.plain.varTypes Tryz.pinned.checked.prog ++ Tryz.f7.resultTypes.toList).any (Tryz.pinned.checked.prog.veiledRec ·))) = true:=by kernel_rfl
theorem k7_k31:(Rows.feeTakesRow.veiledFits Tryz.pinned.checked.prog Tryz.f7.params.toList (Tryz.f7.params.toList ++ Rows.feeTakesSpec.plain.varTypes Tryz.pinned.checked.prog ++ Tryz.f7.resultTypes.toList)) = true:=by kernel_rfl
theorem k7_closed:joinedFacts Tryz.pinned.checked.prog 7 Tryz.f7 Rows.feeTakesSpec Rows.feeTakesRow = true:=k7_and (k7_and (k7_and (k7_and (k7_and (k7_and (k7_and (k7_and (k7_and (k7_and (k7_and (k7_and (k7_and (k7_and (k7_and (k7_and (k7_and (k7_and (k7_and (k7_and (k7_and (k7_and (k7_and (k7_and (k7_and (k7_and (k7_and (k7_and (k7_and (k7_and (k7_and (k7_k0) k7_k1) k7_k2) k7_k3) k7_k4) k7_k5) k7_k6) k7_k7) k7_k8) k7_k9) k7_k10) k7_k11) k7_k12) k7_k13) k7_k14) k7_k15) k7_k16) k7_k17) k7_k18) k7_k19) k7_k20) k7_k21) k7_k22) k7_k23) k7_k24) k7_k25) k7_k26) k7_k27) k7_k28) k7_k29) k7_k30) k7_k31
theorem k7_named:Tryz.pinned.checked.prog.funcNamed Rows.feeTakesRow.func = some 7:=by kernel_rfl
theorem k7_inst:Tryz.f7.isInstance Tryz.pinned.checked.prog Rows.feeTakesRow.origin Rows.feeTakesRow.targs:=of_decide_eq_true (by kernel_rfl)
theorem k7_wrap:Tryz.f7.isWrapper Tryz.pinned.checked.prog Rows.feeTakesRow.wrapper Rows.feeTakesRow.mainSum:=by unfold Func.isWrapper;first | (rw [if_pos (by decide +kernel)];kernel_rfl) | (rw [if_neg (by decide +kernel)];exact ⟨rfl,rfl⟩)
end Go.Proofs.YtnkejaohnhpbpaaGreatDoor
end
section
namespace Go.Proofs.YtnkejaohnhpbpaaGreatDoor
open Go Go.Conc Go.RowKit Go.ChangeShapes Go.WideShapes Lift
set_option maxRecDepth 100000 in
theorem feeTakes_lifted (os:Os) (started:os.Started) (H:Type) (enc:TypeId × Value → H) :
  ReturnsInLeavingWide {} Tryz.checked os 7 .any (fun w args => (Rows.feeTakesSpec.pre enc Tryz.prog Tryz.f7 [] false w args ∧ laidMetH Tryz.prog laidAll w) ∧ sizedMet enc Tryz.prog Tryz.f7 (OpenSpec.ofChange Rows.feeTakesSpec) false w args)
   (Rows.feeTakesSpec.post enc Tryz.prog Tryz.f7 false true false false):=by
 refine leaving_of_runs (C:=Tryz.checked) (X:=fun w _ => laidMetH Tryz.prog laidAll w) (fun _ _ _ hh h => h.of_heap hh) own started Tryz.func7
  (ChangeSpec.witness_shaped (enc:=enc) (C:=Tryz.checked) (os:=os) (X:=fun w _ => laidMetH Tryz.prog laidAll w) false (witW os) #[.agg #[.slice none 0 0,.slice none 0 0,.slice none 0 0,.slice none 0 0],.int .u16 0] 7 (wit_os os) (wit_shaped os _) (by kernel_rfl) (by kernel_rfl) (by kernel_rfl) (door_met os _)) ?_
 intro W base args ds gs before hval0 hW hL
 have hval:∀ (j:Nat) t v,Tryz.f7.params[j]? = some t → args[j]? = some v → Value.okWide Tryz.prog W .any base t v:=hval0
 have hW':=hW
 obtain ⟨p,q,hA0,hV,rfl,_,_⟩:=hW
 have hA:DataW.TrodAll enc Tryz.prog W 0 (fun _ => true) true Tryz.f7.params.toList args.toList ds p:=hA0
 rw [Tryz.params7] at hA hval
 obtain ⟨v0,v1,d0,d1,p0,p1,rfl,rfl,rfl,h0,h1⟩:=trodAll_two hA
 obtain ⟨l,b,rfl,hcap,hbk⟩:=open_book (hval 0 27 v0 rfl rfl) h0
 obtain ⟨x1,rfl,-,-,w1⟩:=open_int Tryz.underlying53 (hval 1 53 v1 rfl rfl) h1
 have hk:=kinds_of_laid hL
 have hx1:0 ≤ x1 ∧ x1 ≤ 65535:=by simpa [Lit.wf,IntKind.min,IntKind.max,IntKind.signed,IntKind.bits] using w1
 obtain ⟨N,last,o,w',t',e1,e2,e3,e4⟩:=law_ends (P:=Tryz.prog) (wa:=W) (args:=#[.agg (l.rarr b),.int .u16 x1]) Tryz.func7 rfl (by kernel_rfl) fun w hcell hs hlim =>
  law7 (hbk.cells hcell hs) hcap (fun j v hj => (hcell _).trans (hk j v hj)) (by rw [hlim,hs];exact Nat.le_refl _) hx1.1 hx1.2
 exact ⟨N,last,o,w',t',e1,e2,e3,e4.mono fun v hv => by
  obtain ⟨rfl,hb⟩:=hv
  exact post_true rfl rfl (by kernel_rfl) (fun l hl => by match l,hl with | [_,_],_ => exact ⟨rfl,rfl,rfl⟩) hW' rfl hb⟩
theorem feeTakes_holds:Rows.FeeTakesSaid:=
 OpenClaim.holds_of_wide_leaving 7 Tryz.f7 rfl rfl rfl rfl rfl rfl rfl ⟨rfl,rfl,rfl,rfl,rfl⟩ rfl rfl rfl rfl rfl k7_named Tryz.func7 k7_closed k7_inst k7_wrap
  (fun os started H enc _ => feeTakes_lifted os started H enc)
theorem feeTakes_card:Rows.FeeTakesCardSaid:=
 card_goes [.data,.funcsDeep,.pinned] true (true, "78367989f1779c6ad5062e28a7d61523e937c9c2f303a8adb35e256f7f7bb139") false feeTakes_holds (by kernel_rfl) feeTakes_row_tie rfl ⟨rfl,rfl⟩ (by kernel_rfl) rfl
  (fun f fn hf hfn => by
   obtain rfl:f = 7:=Option.some.inj (k7_named.symm.trans hf) |>.symm
   obtain rfl:fn = Tryz.f7:=(Option.some.inj (Tryz.func7.symm.trans hfn)).symm
   exact ⟨by kernel_rfl,fun j t ht => by
    rw [Tryz.params7] at ht
    have hm:t ∈ [27,53]:=by simpa using Array.mem_of_getElem? ht
    have hall:([27,53].all fun u => !Tryz.prog.wantsStandIn u) = true:=by kernel_rfl
    exact (show Tryz.prog.wantsStandIn t = false by simpa using List.all_eq_true.1 hall t hm)⟩)
  (by kernel_rfl)
end Go.Proofs.YtnkejaohnhpbpaaGreatDoor
end

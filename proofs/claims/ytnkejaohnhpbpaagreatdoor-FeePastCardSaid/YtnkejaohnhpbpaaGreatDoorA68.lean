/- The closed facts of a row, one theorem each (feePastRow). PRINTED BY A PROGRAM (z7.py). -/
import Derived.Test.YtnkejaohnhpbpaaGreatDoorTie
import Derived.Test.YtnkejaohnhpbpaaGreatDoorCards
import Derived.JoinedOf
import Derived.Conc.Holds
import Derived.Test.YtnkejaohnhpbpaaGreatDoorA44
import Derived.Test.YtnkejaohnhpbpaaGreatDoorA55
import Derived.Test.YtnkejaohnhpbpaaGreatDoorA67
set_option linter.all false
section
namespace Go.Proofs.YtnkejaohnhpbpaaGreatDoor
open Go
theorem k10_and {a b:Bool} (h:a = true) (k:b = true):(a && b) = true:=by rw [h,k];rfl
set_option maxRecDepth 100000
theorem k10_k0:(Rows.feePastRow.wf (OpenSpec.ofChange Rows.feePastSpec)) = true:=by kernel_rfl
theorem k10_k1:(laidOutB Tryz.pinned.checked.prog) = true:=by kernel_rfl
theorem k10_k2:(mapsRowed Tryz.pinned.checked.prog) = true:=by kernel_rfl
theorem k10_k3:(Tryz.f10.params.all (Tryz.pinned.checked.prog.readableRec ·)) = true:=by kernel_rfl
theorem k10_k4:(namedTie Tryz.pinned.checked.prog Rows.feePastRow.named Rows.feePastSpec.vars) = true:=by kernel_rfl
theorem k10_k5:((Rows.feePastRow.stops == [])) = true:=by kernel_rfl
theorem k10_k6:((Tryz.pinned.checked.prog.stops == [])) = true:=by kernel_rfl
theorem k10_k7:((Rows.feePastRow.knobs == [])) = true:=by kernel_rfl
theorem k10_k8:((Tryz.pinned.checked.prog.stopKnobs == [])) = true:=by kernel_rfl
theorem k10_k9:((Rows.feePastRow.inPlace == Tryz.pinned.checked.prog.inPlace 10)) = true:=by kernel_rfl
theorem k10_k10:((Rows.feePastRow.unfollowed == Tryz.pinned.checked.prog.unfollowed 10)) = true:=by kernel_rfl
theorem k10_k11:((Rows.feePastRow.recurses == Tryz.pinned.checked.prog.recurses 10)) = true:=by kernel_rfl
theorem k10_k12:((Rows.feePastRow.named == Tryz.pinned.checked.prog.varsNamed 10)) = true:=by kernel_rfl
theorem k10_k13:((Rows.feePastRow.maps == (Tryz.f10.params.toList ++ Rows.feePastSpec.plain.varTypes Tryz.pinned.checked.prog).any (Tryz.pinned.checked.prog.mapsRec ·))) = true:=by kernel_rfl
theorem k10_k14:((Rows.feePastRow.ifaces == (Tryz.f10.params.toList ++ Rows.feePastSpec.plain.varTypes Tryz.pinned.checked.prog).any (Tryz.pinned.checked.prog.ifacesRec ·))) = true:=by kernel_rfl
theorem k10_k15:((Rows.feePastRow.mapsOut == Tryz.pinned.checked.prog.mapsAmong Tryz.f10.resultTypes.toList)) = true:=by kernel_rfl
theorem k10_k16:((Rows.feePastRow.loops == (Tryz.f10.params.toList ++ Rows.feePastSpec.plain.varTypes Tryz.pinned.checked.prog).any (Tryz.pinned.checked.prog.loopsFrom ·))) = true:=by kernel_rfl
theorem k10_k17:((Rows.feePastRow.wideKeys == (Tryz.f10.params.toList ++ Rows.feePastSpec.plain.varTypes Tryz.pinned.checked.prog ++ Tryz.f10.resultTypes.toList).any (Tryz.pinned.checked.prog.wideKeysFrom ·))) = true:=by kernel_rfl
theorem k10_k18:(Rows.feePastSpec.vars.all (Tryz.pinned.checked.prog.varReadable ·)) = true:=by kernel_rfl
theorem k10_k19:(Tryz.f10.resultTypes.all (fun t => Tryz.pinned.checked.prog.readableRec t && decide (t < Tryz.pinned.checked.prog.types.size))) = true:=by kernel_rfl
theorem k10_k20:((Rows.feePastRow.ifacesOut == Tryz.f10.resultTypes.toList.any (Tryz.pinned.checked.prog.ifacesRec ·))) = true:=by kernel_rfl
theorem k10_k21:((Rows.feePastRow.loopsOut == Tryz.f10.resultTypes.toList.any (Tryz.pinned.checked.prog.loopsFrom ·))) = true:=by kernel_rfl
theorem k10_k22:((Rows.feePastRow.plainKeys == Tryz.pinned.checked.prog.plainKeys)) = true:=by kernel_rfl
theorem k10_k23:(Rows.feePastRow.shortTexts.isNone) = true:=by kernel_rfl
theorem k10_k24:(Tryz.pinned.checked.prog.stopsHeard) = true:=by kernel_rfl
theorem k10_k25:(Tryz.pinned.checked.prog.mayEnter) = true:=by kernel_rfl
theorem k10_k26:((Rows.feePastRow.lifted == Tryz.pinned.checked.prog.liftsFinal)) = true:=by kernel_rfl
theorem k10_k27:((Tryz.pinned.checked.prog.make == some Rows.feePastRow.make)) = true:=by kernel_rfl
theorem k10_k28:((Rows.feePastRow.kinds == (if Rows.feePastRow.domain.isEmpty then [] else Tryz.f10.params.toList.map fun t => match Tryz.pinned.checked.prog.underlying t with | some (.int k) => some k | _ => none))) = true:=by kernel_rfl
theorem k10_k29:((Rows.feePastRow.pinned == Rows.feePastRow.pinnedBy)) = true:=by kernel_rfl
theorem k10_k30:((Rows.feePastRow.veiled == (Tryz.f10.params.toList ++ Rows.feePastSpec.plain.varTypes Tryz.pinned.checked.prog ++ Tryz.f10.resultTypes.toList).any (Tryz.pinned.checked.prog.veiledRec ·))) = true:=by kernel_rfl
theorem k10_k31:(Rows.feePastRow.veiledFits Tryz.pinned.checked.prog Tryz.f10.params.toList (Tryz.f10.params.toList ++ Rows.feePastSpec.plain.varTypes Tryz.pinned.checked.prog ++ Tryz.f10.resultTypes.toList)) = true:=by kernel_rfl
theorem k10_closed:joinedFacts Tryz.pinned.checked.prog 10 Tryz.f10 Rows.feePastSpec Rows.feePastRow = true:=k10_and (k10_and (k10_and (k10_and (k10_and (k10_and (k10_and (k10_and (k10_and (k10_and (k10_and (k10_and (k10_and (k10_and (k10_and (k10_and (k10_and (k10_and (k10_and (k10_and (k10_and (k10_and (k10_and (k10_and (k10_and (k10_and (k10_and (k10_and (k10_and (k10_and (k10_and (k10_k0) k10_k1) k10_k2) k10_k3) k10_k4) k10_k5) k10_k6) k10_k7) k10_k8) k10_k9) k10_k10) k10_k11) k10_k12) k10_k13) k10_k14) k10_k15) k10_k16) k10_k17) k10_k18) k10_k19) k10_k20) k10_k21) k10_k22) k10_k23) k10_k24) k10_k25) k10_k26) k10_k27) k10_k28) k10_k29) k10_k30) k10_k31
theorem k10_named:Tryz.pinned.checked.prog.funcNamed Rows.feePastRow.func = some 10:=by kernel_rfl
theorem k10_inst:Tryz.f10.isInstance Tryz.pinned.checked.prog Rows.feePastRow.origin Rows.feePastRow.targs:=of_decide_eq_true (by kernel_rfl)
theorem k10_wrap:Tryz.f10.isWrapper Tryz.pinned.checked.prog Rows.feePastRow.wrapper Rows.feePastRow.mainSum:=by unfold Func.isWrapper;first | (rw [if_pos (by decide +kernel)];kernel_rfl) | (rw [if_neg (by decide +kernel)];exact ⟨rfl,rfl⟩)
end Go.Proofs.YtnkejaohnhpbpaaGreatDoor
end
section
namespace Go.Proofs.YtnkejaohnhpbpaaGreatDoor
open Go Go.Conc Go.RowKit Go.ChangeShapes Go.WideShapes Lift
set_option maxRecDepth 100000 in
theorem feePast_lifted (os:Os) (started:os.Started) (H:Type) (enc:TypeId × Value → H) :
  ReturnsInLeavingWide {} Tryz.checked os 10 .any (fun w args => (Rows.feePastSpec.pre enc Tryz.prog Tryz.f10 [] false w args ∧ laidMetH Tryz.prog laidAll w) ∧ sizedMet enc Tryz.prog Tryz.f10 (OpenSpec.ofChange Rows.feePastSpec) false w args)
   (Rows.feePastSpec.post enc Tryz.prog Tryz.f10 false true false false):=by
 refine leaving_of_runs (C:=Tryz.checked) (X:=fun w _ => laidMetH Tryz.prog laidAll w) (fun _ _ _ hh h => h.of_heap hh) own started Tryz.func10
  (ChangeSpec.witness_shaped (enc:=enc) (C:=Tryz.checked) (os:=os) (X:=fun w _ => laidMetH Tryz.prog laidAll w) false (witW os) #[.agg #[.slice none 0 0,.slice none 0 0,.slice none 0 0,.slice none 0 0],.int .u16 0,.agg #[.int .i64 0,.int .i64 0,.int .i64 0,.int .i64 0,.int .i64 0]] 10 (wit_os os) (wit_shaped os _) (by kernel_rfl) (by kernel_rfl) (by kernel_rfl) (door_met os _)) ?_
 intro W base args ds gs before hval0 hW hL
 have hval:∀ (j:Nat) t v,Tryz.f10.params[j]? = some t → args[j]? = some v → Value.okWide Tryz.prog W .any base t v:=hval0
 have hW':=hW
 obtain ⟨p,q,hA0,hV,rfl,_,_⟩:=hW
 have hA:DataW.TrodAll enc Tryz.prog W 0 (fun _ => true) true Tryz.f10.params.toList args.toList ds p:=hA0
 rw [Tryz.params10] at hA hval
 obtain ⟨v0,v1,v2,d0,d1,d2,p0,p1,p2,rfl,rfl,rfl,h0,h1,h2⟩:=trodAll_three hA
 obtain ⟨l,b,rfl,hcap,hbk⟩:=open_book (hval 0 27 v0 rfl rfl) h0
 obtain ⟨x1,rfl,-,-,w1⟩:=open_int Tryz.underlying53 (hval 1 53 v1 rfl rfl) h1
 obtain ⟨x2,rfl⟩:=open_pay (hval 2 56 v2 rfl rfl) h2
 have hk:=kinds_of_laid hL
 have hx1:0 ≤ x1 ∧ x1 ≤ 65535:=by simpa [Lit.wf,IntKind.min,IntKind.max,IntKind.signed,IntKind.bits] using w1
 obtain ⟨N,last,o,w',t',e1,e2,e3,e4⟩:=law_ends (P:=Tryz.prog) (wa:=W) (args:=#[.agg (l.rarr b),.int .u16 x1,.agg #[.int .i64 x2.kind,.int .i64 x2.day,.int .i64 x2.coin,.int .i64 x2.amount,.int .i64 x2.cas]]) Tryz.func10 rfl (by kernel_rfl) fun w hcell hs hlim =>
  law10 (hbk.cells hcell hs) hcap (fun j v hj => (hcell _).trans (hk j v hj)) (by rw [hlim,hs];exact Nat.le_refl _) hx1.1 hx1.2
 exact ⟨N,last,o,w',t',e1,e2,e3,e4.mono fun v hv => by
  obtain ⟨rfl,hb⟩:=hv
  exact post_true rfl rfl (by kernel_rfl) (fun l hl => by match l,hl with | [_,_,_],_ => exact ⟨rfl,rfl,rfl⟩) hW' rfl hb⟩
theorem feePast_holds:Rows.FeePastSaid:=
 OpenClaim.holds_of_wide_leaving 10 Tryz.f10 rfl rfl rfl rfl rfl rfl rfl ⟨rfl,rfl,rfl,rfl,rfl⟩ rfl rfl rfl rfl rfl k10_named Tryz.func10 k10_closed k10_inst k10_wrap
  (fun os started H enc _ => feePast_lifted os started H enc)
theorem feePast_card:Rows.FeePastCardSaid:=
 card_goes [.data,.funcsDeep,.pinned] true (true, "78367989f1779c6ad5062e28a7d61523e937c9c2f303a8adb35e256f7f7bb139") false feePast_holds (by kernel_rfl) feePast_row_tie rfl ⟨rfl,rfl⟩ (by kernel_rfl) rfl
  (fun f fn hf hfn => by
   obtain rfl:f = 10:=Option.some.inj (k10_named.symm.trans hf) |>.symm
   obtain rfl:fn = Tryz.f10:=(Option.some.inj (Tryz.func10.symm.trans hfn)).symm
   exact ⟨by kernel_rfl,fun j t ht => by
    rw [Tryz.params10] at ht
    have hm:t ∈ [27,53,56]:=by simpa using Array.mem_of_getElem? ht
    have hall:([27,53,56].all fun u => !Tryz.prog.wantsStandIn u) = true:=by kernel_rfl
    exact (show Tryz.prog.wantsStandIn t = false by simpa using List.all_eq_true.1 hall t hm)⟩)
  (by kernel_rfl)
end Go.Proofs.YtnkejaohnhpbpaaGreatDoor
end

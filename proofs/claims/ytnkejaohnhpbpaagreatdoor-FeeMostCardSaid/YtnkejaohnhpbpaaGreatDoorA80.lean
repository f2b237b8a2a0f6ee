/- The closed facts of a row, one theorem each (feeMostRow). PRINTED BY A PROGRAM (z7.py). -/
import Derived.Test.YtnkejaohnhpbpaaGreatDoorTie
import Derived.Test.YtnkejaohnhpbpaaGreatDoorCards
import Derived.JoinedOf
import Derived.Conc.Holds
import Derived.Test.YtnkejaohnhpbpaaGreatDoorA44
import Derived.Test.YtnkejaohnhpbpaaGreatDoorA79
set_option linter.all false
section
namespace Go.Proofs.YtnkejaohnhpbpaaGreatDoor
open Go
theorem k15_and {a b:Bool} (h:a = true) (k:b = true):(a && b) = true:=by rw [h,k];rfl
set_option maxRecDepth 100000
theorem k15_k0:(Rows.feeMostRow.wf (OpenSpec.ofChange Rows.feeMostSpec)) = true:=by kernel_rfl
theorem k15_k1:(laidOutB Tryz.pinned.checked.prog) = true:=by kernel_rfl
theorem k15_k2:(mapsRowed Tryz.pinned.checked.prog) = true:=by kernel_rfl
theorem k15_k3:(Tryz.f15.params.all (Tryz.pinned.checked.prog.readableRec ·)) = true:=by kernel_rfl
theorem k15_k4:(namedTie Tryz.pinned.checked.prog Rows.feeMostRow.named Rows.feeMostSpec.vars) = true:=by kernel_rfl
theorem k15_k5:((Rows.feeMostRow.stops == [])) = true:=by kernel_rfl
theorem k15_k6:((Tryz.pinned.checked.prog.stops == [])) = true:=by kernel_rfl
theorem k15_k7:((Rows.feeMostRow.knobs == [])) = true:=by kernel_rfl
theorem k15_k8:((Tryz.pinned.checked.prog.stopKnobs == [])) = true:=by kernel_rfl
theorem k15_k9:((Rows.feeMostRow.inPlace == Tryz.pinned.checked.prog.inPlace 15)) = true:=by kernel_rfl
theorem k15_k10:((Rows.feeMostRow.unfollowed == Tryz.pinned.checked.prog.unfollowed 15)) = true:=by kernel_rfl
theorem k15_k11:((Rows.feeMostRow.recurses == Tryz.pinned.checked.prog.recurses 15)) = true:=by kernel_rfl
theorem k15_k12:((Rows.feeMostRow.named == Tryz.pinned.checked.prog.varsNamed 15)) = true:=by kernel_rfl
theorem k15_k13:((Rows.feeMostRow.maps == (Tryz.f15.params.toList ++ Rows.feeMostSpec.plain.varTypes Tryz.pinned.checked.prog).any (Tryz.pinned.checked.prog.mapsRec ·))) = true:=by kernel_rfl
theorem k15_k14:((Rows.feeMostRow.ifaces == (Tryz.f15.params.toList ++ Rows.feeMostSpec.plain.varTypes Tryz.pinned.checked.prog).any (Tryz.pinned.checked.prog.ifacesRec ·))) = true:=by kernel_rfl
theorem k15_k15:((Rows.feeMostRow.mapsOut == Tryz.pinned.checked.prog.mapsAmong Tryz.f15.resultTypes.toList)) = true:=by kernel_rfl
theorem k15_k16:((Rows.feeMostRow.loops == (Tryz.f15.params.toList ++ Rows.feeMostSpec.plain.varTypes Tryz.pinned.checked.prog).any (Tryz.pinned.checked.prog.loopsFrom ·))) = true:=by kernel_rfl
theorem k15_k17:((Rows.feeMostRow.wideKeys == (Tryz.f15.params.toList ++ Rows.feeMostSpec.plain.varTypes Tryz.pinned.checked.prog ++ Tryz.f15.resultTypes.toList).any (Tryz.pinned.checked.prog.wideKeysFrom ·))) = true:=by kernel_rfl
theorem k15_k18:(Rows.feeMostSpec.vars.all (Tryz.pinned.checked.prog.varReadable ·)) = true:=by kernel_rfl
theorem k15_k19:(Tryz.f15.resultTypes.all (fun t => Tryz.pinned.checked.prog.readableRec t && decide (t < Tryz.pinned.checked.prog.types.size))) = true:=by kernel_rfl
theorem k15_k20:((Rows.feeMostRow.ifacesOut == Tryz.f15.resultTypes.toList.any (Tryz.pinned.checked.prog.ifacesRec ·))) = true:=by kernel_rfl
theorem k15_k21:((Rows.feeMostRow.loopsOut == Tryz.f15.resultTypes.toList.any (Tryz.pinned.checked.prog.loopsFrom ·))) = true:=by kernel_rfl
theorem k15_k22:((Rows.feeMostRow.plainKeys == Tryz.pinned.checked.prog.plainKeys)) = true:=by kernel_rfl
theorem k15_k23:(Rows.feeMostRow.shortTexts.isNone) = true:=by kernel_rfl
theorem k15_k24:(Tryz.pinned.checked.prog.stopsHeard) = true:=by kernel_rfl
theorem k15_k25:(Tryz.pinned.checked.prog.mayEnter) = true:=by kernel_rfl
theorem k15_k26:((Rows.feeMostRow.lifted == Tryz.pinned.checked.prog.liftsFinal)) = true:=by kernel_rfl
theorem k15_k27:((Tryz.pinned.checked.prog.make == some Rows.feeMostRow.make)) = true:=by kernel_rfl
theorem k15_k28:((Rows.feeMostRow.kinds == (if Rows.feeMostRow.domain.isEmpty then [] else Tryz.f15.params.toList.map fun t => match Tryz.pinned.checked.prog.underlying t with | some (.int k) => some k | _ => none))) = true:=by kernel_rfl
theorem k15_k29:((Rows.feeMostRow.pinned == Rows.feeMostRow.pinnedBy)) = true:=by kernel_rfl
theorem k15_k30:((Rows.feeMostRow.veiled == (Tryz.f15.params.toList ++ Rows.feeMostSpec.plain.varTypes Tryz.pinned.checked.prog ++ Tryz.f15.resultTypes.toList).any (Tryz.pinned.checked.prog.veiledRec ·))) = true:=by kernel_rfl
theorem k15_k31:(Rows.feeMostRow.veiledFits Tryz.pinned.checked.prog Tryz.f15.params.toList (Tryz.f15.params.toList ++ Rows.feeMostSpec.plain.varTypes Tryz.pinned.checked.prog ++ Tryz.f15.resultTypes.toList)) = true:=by kernel_rfl
theorem k15_closed:joinedFacts Tryz.pinned.checked.prog 15 Tryz.f15 Rows.feeMostSpec Rows.feeMostRow = true:=k15_and (k15_and (k15_and (k15_and (k15_and (k15_and (k15_and (k15_and (k15_and (k15_and (k15_and (k15_and (k15_and (k15_and (k15_and (k15_and (k15_and (k15_and (k15_and (k15_and (k15_and (k15_and (k15_and (k15_and (k15_and (k15_and (k15_and (k15_and (k15_and (k15_and (k15_and (k15_k0) k15_k1) k15_k2) k15_k3) k15_k4) k15_k5) k15_k6) k15_k7) k15_k8) k15_k9) k15_k10) k15_k11) k15_k12) k15_k13) k15_k14) k15_k15) k15_k16) k15_k17) k15_k18) k15_k19) k15_k20) k15_k21) k15_k22) k15_k23) k15_k24) k15_k25) k15_k26) k15_k27) k15_k28) k15_k29) k15_k30) k15_k31
theorem k15_named:Tryz.pinned.checked.prog.funcNamed Rows.feeMostRow.func = some 15:=by kernel_rfl
theorem k15_inst:Tryz.f15.isInstance Tryz.pinned.checked.prog Rows.feeMostRow.origin Rows.feeMostRow.targs:=of_decide_eq_true (by kernel_rfl)
theorem k15_wrap:Tryz.f15.isWrapper Tryz.pinned.checked.prog Rows.feeMostRow.wrapper Rows.feeMostRow.mainSum:=by unfold Func.isWrapper;first | (rw [if_pos (by decide +kernel)];kernel_rfl) | (rw [if_neg (by decide +kernel)];exact ⟨rfl,rfl⟩)
end Go.Proofs.YtnkejaohnhpbpaaGreatDoor
end
section
namespace Go.Proofs.YtnkejaohnhpbpaaGreatDoor
open Go Go.Conc Go.RowKit Go.ChangeShapes Go.WideShapes Lift
set_option maxRecDepth 100000 in
theorem feeMost_lifted (os:Os) (started:os.Started) (H:Type) (enc:TypeId × Value → H) :
  ReturnsInLeavingWide {} Tryz.checked os 15 .any (fun w args => (Rows.feeMostSpec.pre enc Tryz.prog Tryz.f15 [] false w args ∧ laidMetH Tryz.prog laidAll w) ∧ sizedMet enc Tryz.prog Tryz.f15 (OpenSpec.ofChange Rows.feeMostSpec) false w args)
   (Rows.feeMostSpec.post enc Tryz.prog Tryz.f15 false true false false):=by
 refine leaving_of_runs (C:=Tryz.checked) (X:=fun w _ => laidMetH Tryz.prog laidAll w) (fun _ _ _ hh h => h.of_heap hh) own started Tryz.func15
  (ChangeSpec.witness_shaped (enc:=enc) (C:=Tryz.checked) (os:=os) (X:=fun w _ => laidMetH Tryz.prog laidAll w) false (witW os) #[.agg #[.slice none 0 0,.slice none 0 0,.slice none 0 0,.slice none 0 0],.int .u16 0,.int .u8 0,.int .u8 0] 15 (wit_os os) (wit_shaped os _) (by kernel_rfl) (by kernel_rfl) (by kernel_rfl) (door_met os _)) ?_
 intro W base args ds gs before hval0 hW hL;have hval:∀ (j:Nat) t v,Tryz.f15.params[j]? = some t → args[j]? = some v → Value.okWide Tryz.prog W .any base t v:=hval0;have hW':=hW;obtain ⟨p,q,hA0,hV,rfl,_,_⟩:=hW;have hA:DataW.TrodAll enc Tryz.prog W 0 (fun _ => true) true Tryz.f15.params.toList args.toList ds p:=hA0;rw [Tryz.params15] at hA hval;obtain ⟨v0,v1,v2,v3,d0,d1,d2,d3,p0,p1,p2,p3,rfl,rfl,rfl,h0,h1,h2,h3⟩:=trodAll_four hA;obtain ⟨l,b,rfl,hcap,hbk⟩:=open_book (hval 0 27 v0 rfl rfl) h0;obtain ⟨x1,rfl,-,-,w1⟩:=open_int Tryz.underlying53 (hval 1 53 v1 rfl rfl) h1;obtain ⟨x2,rfl,-,-,w2⟩:=open_int Tryz.underlying5 (hval 2 5 v2 rfl rfl) h2;obtain ⟨x3,rfl,-,-,w3⟩:=open_int Tryz.underlying5 (hval 3 5 v3 rfl rfl) h3;have hk:=kinds_of_laid hL;have hx1:0 ≤ x1 ∧ x1 ≤ 65535:=by simpa [Lit.wf,IntKind.min,IntKind.max,IntKind.signed,IntKind.bits] using w1
 have hx2:0 ≤ x2 ∧ x2 ≤ 255:=by simpa [Lit.wf,IntKind.min,IntKind.max,IntKind.signed,IntKind.bits] using w2
 have hx3:0 ≤ x3 ∧ x3 ≤ 255:=by simpa [Lit.wf,IntKind.min,IntKind.max,IntKind.signed,IntKind.bits] using w3
 obtain ⟨N,last,o,w',t',e1,e2,e3,e4⟩:=law_ends (P:=Tryz.prog) (wa:=W) (args:=#[.agg (l.rarr b),.int .u16 x1,.int .u8 x2,.int .u8 x3]) Tryz.func15 rfl (by kernel_rfl) fun w hcell hs hlim =>
  law15 (hbk.cells hcell hs) hcap (fun j v hj => (hcell _).trans (hk j v hj)) (by rw [hlim,hs];exact Nat.le_refl _) hx1.1 hx1.2 hx2.1 hx2.2 hx3.1 hx3.2
 exact ⟨N,last,o,w',t',e1,e2,e3,e4.mono fun v hv => by
  obtain ⟨rfl,hb⟩:=hv;exact post_true rfl rfl (by kernel_rfl) (fun l hl => by match l,hl with | [_,_,_,_],_ => exact ⟨rfl,rfl,rfl⟩) hW' rfl hb⟩
theorem feeMost_holds:Rows.FeeMostSaid:=
 OpenClaim.holds_of_wide_leaving 15 Tryz.f15 rfl rfl rfl rfl rfl rfl rfl ⟨rfl,rfl,rfl,rfl,rfl⟩ rfl rfl rfl rfl rfl k15_named Tryz.func15 k15_closed k15_inst k15_wrap
  (fun os started H enc _ => feeMost_lifted os started H enc)
theorem feeMost_card:Rows.FeeMostCardSaid:=
 card_goes [.data,.funcsDeep,.pinned] true (true, "78367989f1779c6ad5062e28a7d61523e937c9c2f303a8adb35e256f7f7bb139") false feeMost_holds (by kernel_rfl) feeMost_row_tie rfl ⟨rfl,rfl⟩ (by kernel_rfl) rfl
  (fun f fn hf hfn => by
   obtain rfl:f = 15:=Option.some.inj (k15_named.symm.trans hf) |>.symm;obtain rfl:fn = Tryz.f15:=(Option.some.inj (Tryz.func15.symm.trans hfn)).symm;exact ⟨by kernel_rfl,fun j t ht => by
    rw [Tryz.params15] at ht;have hm:t ∈ [27,53,5,5]:=by simpa using Array.mem_of_getElem? ht
    have hall:([27,53,5,5].all fun u => !Tryz.prog.wantsStandIn u) = true:=by kernel_rfl
    exact (show Tryz.prog.wantsStandIn t = false by simpa using List.all_eq_true.1 hall t hm)⟩)
  (by kernel_rfl)
end Go.Proofs.YtnkejaohnhpbpaaGreatDoor
end

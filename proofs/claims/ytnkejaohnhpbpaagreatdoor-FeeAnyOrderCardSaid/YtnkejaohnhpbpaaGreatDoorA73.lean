/- The closed facts of a row, one theorem each (feeAnyOrderRow). PRINTED BY A PROGRAM (z7.py). -/
import Derived.Test.YtnkejaohnhpbpaaGreatDoorTie
import Derived.Test.YtnkejaohnhpbpaaGreatDoorCards
import Derived.JoinedOf
import Derived.Conc.Holds
import Derived.Test.YtnkejaohnhpbpaaGreatDoorA44
import Derived.Test.YtnkejaohnhpbpaaGreatDoorA72
set_option linter.all false
section
namespace Go.Proofs.YtnkejaohnhpbpaaGreatDoor
open Go
theorem k9_and {a b:Bool} (h:a = true) (k:b = true):(a && b) = true:=by rw [h,k];rfl
set_option maxRecDepth 100000
theorem k9_k0:(Rows.feeAnyOrderRow.wf (OpenSpec.ofChange Rows.feeAnyOrderSpec)) = true:=by kernel_rfl
theorem k9_k1:(laidOutB Tryz.pinned.checked.prog) = true:=by kernel_rfl
theorem k9_k2:(mapsRowed Tryz.pinned.checked.prog) = true:=by kernel_rfl
theorem k9_k3:(Tryz.f9.params.all (Tryz.pinned.checked.prog.readableRec ·)) = true:=by kernel_rfl
theorem k9_k4:(namedTie Tryz.pinned.checked.prog Rows.feeAnyOrderRow.named Rows.feeAnyOrderSpec.vars) = true:=by kernel_rfl
theorem k9_k5:((Rows.feeAnyOrderRow.stops == [])) = true:=by kernel_rfl
theorem k9_k6:((Tryz.pinned.checked.prog.stops == [])) = true:=by kernel_rfl
theorem k9_k7:((Rows.feeAnyOrderRow.knobs == [])) = true:=by kernel_rfl
theorem k9_k8:((Tryz.pinned.checked.prog.stopKnobs == [])) = true:=by kernel_rfl
theorem k9_k9:((Rows.feeAnyOrderRow.inPlace == Tryz.pinned.checked.prog.inPlace 9)) = true:=by kernel_rfl
theorem k9_k10:((Rows.feeAnyOrderRow.unfollowed == Tryz.pinned.checked.prog.unfollowed 9)) = true:=by kernel_rfl
theorem k9_k11:((Rows.feeAnyOrderRow.recurses == Tryz.pinned.checked.prog.recurses 9)) = true:=by kernel_rfl
theorem k9_k12:((Rows.feeAnyOrderRow.named == Tryz.pinned.checked.prog.varsNamed 9)) = true:=by kernel_rfl
theorem k9_k13:((Rows.feeAnyOrderRow.maps == (Tryz.f9.params.toList ++ Rows.feeAnyOrderSpec.plain.varTypes Tryz.pinned.checked.prog).any (Tryz.pinned.checked.prog.mapsRec ·))) = true:=by kernel_rfl
theorem k9_k14:((Rows.feeAnyOrderRow.ifaces == (Tryz.f9.params.toList ++ Rows.feeAnyOrderSpec.plain.varTypes Tryz.pinned.checked.prog).any (Tryz.pinned.checked.prog.ifacesRec ·))) = true:=by kernel_rfl
theorem k9_k15:((Rows.feeAnyOrderRow.mapsOut == Tryz.pinned.checked.prog.mapsAmong Tryz.f9.resultTypes.toList)) = true:=by kernel_rfl
theorem k9_k16:((Rows.feeAnyOrderRow.loops == (Tryz.f9.params.toList ++ Rows.feeAnyOrderSpec.plain.varTypes Tryz.pinned.checked.prog).any (Tryz.pinned.checked.prog.loopsFrom ·))) = true:=by kernel_rfl
theorem k9_k17:((Rows.feeAnyOrderRow.wideKeys == (Tryz.f9.params.toList ++ Rows.feeAnyOrderSpec.plain.varTypes Tryz.pinned.checked.prog ++ Tryz.f9.resultTypes.toList).any (Tryz.pinned.checked.prog.wideKeysFrom ·))) = true:=by kernel_rfl
theorem k9_k18:(Rows.feeAnyOrderSpec.vars.all (Tryz.pinned.checked.prog.varReadable ·)) = true:=by kernel_rfl
theorem k9_k19:(Tryz.f9.resultTypes.all (fun t => Tryz.pinned.checked.prog.readableRec t && decide (t < Tryz.pinned.checked.prog.types.size))) = true:=by kernel_rfl
theorem k9_k20:((Rows.feeAnyOrderRow.ifacesOut == Tryz.f9.resultTypes.toList.any (Tryz.pinned.checked.prog.ifacesRec ·))) = true:=by kernel_rfl
theorem k9_k21:((Rows.feeAnyOrderRow.loopsOut == Tryz.f9.resultTypes.toList.any (Tryz.pinned.checked.prog.loopsFrom ·))) = true:=by kernel_rfl
theorem k9_k22:((Rows.feeAnyOrderRow.plainKeys == Tryz.pinned.checked.prog.plainKeys)) = true:=by kernel_rfl
theorem k9_k23:(Rows.feeAnyOrderRow.shortTexts.isNone) = true:=by kernel_rfl
theorem k9_k24:(Tryz.pinned.checked.prog.stopsHeard) = true:=by kernel_rfl
theorem k9_k25:(Tryz.pinned.checked.prog.mayEnter) = true:=by kernel_rfl
theorem k9_k26:((Rows.feeAnyOrderRow.lifted == Tryz.pinned.checked.prog.liftsFinal)) = true:=by kernel_rfl
theorem k9_k27:((Tryz.pinned.checked.prog.make == some Rows.feeAnyOrderRow.make)) = true:=by kernel_rfl
theorem k9_k28:((Rows.feeAnyOrderRow.kinds == (if Rows.feeAnyOrderRow.domain.isEmpty then [] else Tryz.f9.params.toList.map fun t => match Tryz.pinned.checked.prog.underlying t with | some (.int k) => some k | _ => none))) = true:=by kernel_rfl
theorem k9_k29:((Rows.feeAnyOrderRow.pinned == Rows.feeAnyOrderRow.pinnedBy)) = true:=by kernel_rfl
theorem k9_k30:((Rows.feeAnyOrderRow.veiled == (Tryz.f9.params.toList ++ Rows.feeAnyOrderSpec.plain.varTypes Tryz.pinned.checked.prog ++ Tryz.f9.resultTypes.toList).any (Tryz.pinned.checked.prog.veiledRec ·))) = true:=by kernel_rfl
theorem k9_k31:(Rows.feeAnyOrderRow.veiledFits Tryz.pinned.checked.prog Tryz.f9.params.toList (Tryz.f9.params.toList ++ Rows.feeAnyOrderSpec.plain.varTypes Tryz.pinned.checked.prog ++ Tryz.f9.resultTypes.toList)) = true:=by kernel_rfl
theorem k9_closed:joinedFacts Tryz.pinned.checked.prog 9 Tryz.f9 Rows.feeAnyOrderSpec Rows.feeAnyOrderRow = true:=k9_and (k9_and (k9_and (k9_and (k9_and (k9_and (k9_and (k9_and (k9_and (k9_and (k9_and (k9_and (k9_and (k9_and (k9_and (k9_and (k9_and (k9_and (k9_and (k9_and (k9_and (k9_and (k9_and (k9_and (k9_and (k9_and (k9_and (k9_and (k9_and (k9_and (k9_and (k9_k0) k9_k1) k9_k2) k9_k3) k9_k4) k9_k5) k9_k6) k9_k7) k9_k8) k9_k9) k9_k10) k9_k11) k9_k12) k9_k13) k9_k14) k9_k15) k9_k16) k9_k17) k9_k18) k9_k19) k9_k20) k9_k21) k9_k22) k9_k23) k9_k24) k9_k25) k9_k26) k9_k27) k9_k28) k9_k29) k9_k30) k9_k31
theorem k9_named:Tryz.pinned.checked.prog.funcNamed Rows.feeAnyOrderRow.func = some 9:=by kernel_rfl
theorem k9_inst:Tryz.f9.isInstance Tryz.pinned.checked.prog Rows.feeAnyOrderRow.origin Rows.feeAnyOrderRow.targs:=of_decide_eq_true (by kernel_rfl)
theorem k9_wrap:Tryz.f9.isWrapper Tryz.pinned.checked.prog Rows.feeAnyOrderRow.wrapper Rows.feeAnyOrderRow.mainSum:=by unfold Func.isWrapper;first | (rw [if_pos (by decide +kernel)];kernel_rfl) | (rw [if_neg (by decide +kernel)];exact ⟨rfl,rfl⟩)
end Go.Proofs.YtnkejaohnhpbpaaGreatDoor
end
section
namespace Go.Proofs.YtnkejaohnhpbpaaGreatDoor
open Go Go.Conc Go.RowKit Go.ChangeShapes Go.WideShapes Lift
set_option maxRecDepth 100000 in
theorem feeAnyOrder_lifted (os:Os) (started:os.Started) (H:Type) (enc:TypeId × Value → H) :
  ReturnsInLeavingWide {} Tryz.checked os 9 .any (fun w args => (Rows.feeAnyOrderSpec.pre enc Tryz.prog Tryz.f9 [] false w args ∧ laidMetH Tryz.prog laidAll w) ∧ sizedMet enc Tryz.prog Tryz.f9 (OpenSpec.ofChange Rows.feeAnyOrderSpec) false w args)
   (Rows.feeAnyOrderSpec.post enc Tryz.prog Tryz.f9 false true false false):=by
 refine leaving_of_runs (C:=Tryz.checked) (X:=fun w _ => laidMetH Tryz.prog laidAll w) (fun _ _ _ hh h => h.of_heap hh) own started Tryz.func9
  (ChangeSpec.witness_shaped (enc:=enc) (C:=Tryz.checked) (os:=os) (X:=fun w _ => laidMetH Tryz.prog laidAll w) false (witW os) #[.agg #[.slice none 0 0,.slice none 0 0,.slice none 0 0,.slice none 0 0],.int .u8 0,.int .u16 0] 9 (wit_os os) (wit_shaped os _) (by kernel_rfl) (by kernel_rfl) (by kernel_rfl) (door_met os _)) ?_
 intro W base args ds gs before hval0 hW hL
 have hval:∀ (j:Nat) t v,Tryz.f9.params[j]? = some t → args[j]? = some v → Value.okWide Tryz.prog W .any base t v:=hval0
 have hW':=hW
 obtain ⟨p,q,hA0,hV,rfl,_,_⟩:=hW
 have hA:DataW.TrodAll enc Tryz.prog W 0 (fun _ => true) true Tryz.f9.params.toList args.toList ds p:=hA0
 rw [Tryz.params9] at hA hval
 obtain ⟨v0,v1,v2,d0,d1,d2,p0,p1,p2,rfl,rfl,rfl,h0,h1,h2⟩:=trodAll_three hA
 obtain ⟨l,b,rfl,hcap,hbk⟩:=open_book (hval 0 27 v0 rfl rfl) h0
 obtain ⟨x1,rfl,-,-,w1⟩:=open_int Tryz.underlying5 (hval 1 5 v1 rfl rfl) h1
 obtain ⟨x2,rfl,-,-,w2⟩:=open_int Tryz.underlying53 (hval 2 53 v2 rfl rfl) h2
 have hk:=kinds_of_laid hL
 have hx1:0 ≤ x1 ∧ x1 ≤ 255:=by simpa [Lit.wf,IntKind.min,IntKind.max,IntKind.signed,IntKind.bits] using w1
 have hx2:0 ≤ x2 ∧ x2 ≤ 65535:=by simpa [Lit.wf,IntKind.min,IntKind.max,IntKind.signed,IntKind.bits] using w2
 obtain ⟨N,last,o,w',t',e1,e2,e3,e4⟩:=law_ends (P:=Tryz.prog) (wa:=W) (args:=#[.agg (l.rarr b),.int .u8 x1,.int .u16 x2]) Tryz.func9 rfl (by kernel_rfl) fun w hcell hs hlim =>
  law9 (hbk.cells hcell hs) hcap (fun j v hj => (hcell _).trans (hk j v hj)) (by rw [hlim,hs];exact Nat.le_refl _) hx1.1 hx1.2 hx2.1 hx2.2
 exact ⟨N,last,o,w',t',e1,e2,e3,e4.mono fun v hv => by
  obtain ⟨rfl,hb⟩:=hv
  exact post_true rfl rfl (by kernel_rfl) (fun l hl => by match l,hl with | [_,_,_],_ => exact ⟨rfl,rfl,rfl⟩) hW' rfl hb⟩
theorem feeAnyOrder_holds:Rows.FeeAnyOrderSaid:=
 OpenClaim.holds_of_wide_leaving 9 Tryz.f9 rfl rfl rfl rfl rfl rfl rfl ⟨rfl,rfl,rfl,rfl,rfl⟩ rfl rfl rfl rfl rfl k9_named Tryz.func9 k9_closed k9_inst k9_wrap
  (fun os started H enc _ => feeAnyOrder_lifted os started H enc)
theorem feeAnyOrder_card:Rows.FeeAnyOrderCardSaid:=
 card_goes [.data,.funcsDeep,.pinned] true (true, "78367989f1779c6ad5062e28a7d61523e937c9c2f303a8adb35e256f7f7bb139") false feeAnyOrder_holds (by kernel_rfl) feeAnyOrder_row_tie rfl ⟨rfl,rfl⟩ (by kernel_rfl) rfl
  (fun f fn hf hfn => by
   obtain rfl:f = 9:=Option.some.inj (k9_named.symm.trans hf) |>.symm
   obtain rfl:fn = Tryz.f9:=(Option.some.inj (Tryz.func9.symm.trans hfn)).symm
   exact ⟨by kernel_rfl,fun j t ht => by
    rw [Tryz.params9] at ht
    have hm:t ∈ [27,5,53]:=by simpa using Array.mem_of_getElem? ht
    have hall:([27,5,53].all fun u => !Tryz.prog.wantsStandIn u) = true:=by kernel_rfl
    exact (show Tryz.prog.wantsStandIn t = false by simpa using List.all_eq_true.1 hall t hm)⟩)
  (by kernel_rfl)
end Go.Proofs.YtnkejaohnhpbpaaGreatDoor
end

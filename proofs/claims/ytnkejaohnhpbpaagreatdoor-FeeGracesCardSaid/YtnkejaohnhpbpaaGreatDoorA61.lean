/- The closed facts of a row, one theorem each (feeGracesRow). PRINTED BY A PROGRAM (z7.py). -/
import Derived.Test.YtnkejaohnhpbpaaGreatDoorTie
import Derived.Test.YtnkejaohnhpbpaaGreatDoorCards
import Derived.JoinedOf
import Derived.Conc.Holds
set_option linter.all false
namespace Go.Proofs.YtnkejaohnhpbpaaGreatDoor
open Go
theorem k12_and {a b : Bool} (h : a = true) (k : b = true) : (a && b) = true := by rw [h, k]; rfl
set_option maxRecDepth 100000
theorem k12_k0 : (Rows.feeGracesRow.wf (OpenSpec.ofChange Rows.feeGracesSpec)) = true := by kernel_rfl
theorem k12_k1 : (laidOutB Tryz.pinned.checked.prog) = true := by kernel_rfl
theorem k12_k2 : (mapsRowed Tryz.pinned.checked.prog) = true := by kernel_rfl
theorem k12_k3 : (Tryz.f12.params.all (Tryz.pinned.checked.prog.readableRec ·)) = true := by kernel_rfl
theorem k12_k4 : (namedTie Tryz.pinned.checked.prog Rows.feeGracesRow.named Rows.feeGracesSpec.vars) = true := by kernel_rfl
theorem k12_k5 : ((Rows.feeGracesRow.stops == [])) = true := by kernel_rfl
theorem k12_k6 : ((Tryz.pinned.checked.prog.stops == [])) = true := by kernel_rfl
theorem k12_k7 : ((Rows.feeGracesRow.knobs == [])) = true := by kernel_rfl
theorem k12_k8 : ((Tryz.pinned.checked.prog.stopKnobs == [])) = true := by kernel_rfl
theorem k12_k9 : ((Rows.feeGracesRow.inPlace == Tryz.pinned.checked.prog.inPlace 12)) = true := by kernel_rfl
theorem k12_k10 : ((Rows.feeGracesRow.unfollowed == Tryz.pinned.checked.prog.unfollowed 12)) = true := by kernel_rfl
theorem k12_k11 : ((Rows.feeGracesRow.recurses == Tryz.pinned.checked.prog.recurses 12)) = true := by kernel_rfl
theorem k12_k12 : ((Rows.feeGracesRow.named == Tryz.pinned.checked.prog.varsNamed 12)) = true := by kernel_rfl
theorem k12_k13 : ((Rows.feeGracesRow.maps == (Tryz.f12.params.toList ++ Rows.feeGracesSpec.plain.varTypes Tryz.pinned.checked.prog).any (Tryz.pinned.checked.prog.mapsRec ·))) = true := by kernel_rfl
theorem k12_k14 : ((Rows.feeGracesRow.ifaces == (Tryz.f12.params.toList ++ Rows.feeGracesSpec.plain.varTypes Tryz.pinned.checked.prog).any (Tryz.pinned.checked.prog.ifacesRec ·))) = true := by kernel_rfl
theorem k12_k15 : ((Rows.feeGracesRow.mapsOut == Tryz.pinned.checked.prog.mapsAmong Tryz.f12.resultTypes.toList)) = true := by kernel_rfl
theorem k12_k16 : ((Rows.feeGracesRow.loops == (Tryz.f12.params.toList ++ Rows.feeGracesSpec.plain.varTypes Tryz.pinned.checked.prog).any (Tryz.pinned.checked.prog.loopsFrom ·))) = true := by kernel_rfl
theorem k12_k17 : ((Rows.feeGracesRow.wideKeys == (Tryz.f12.params.toList ++ Rows.feeGracesSpec.plain.varTypes Tryz.pinned.checked.prog ++ Tryz.f12.resultTypes.toList).any (Tryz.pinned.checked.prog.wideKeysFrom ·))) = true := by kernel_rfl
theorem k12_k18 : (Rows.feeGracesSpec.vars.all (Tryz.pinned.checked.prog.varReadable ·)) = true := by kernel_rfl
theorem k12_k19 : (Tryz.f12.resultTypes.all (fun t => Tryz.pinned.checked.prog.readableRec t && decide (t < Tryz.pinned.checked.prog.types.size))) = true := by kernel_rfl
theorem k12_k20 : ((Rows.feeGracesRow.ifacesOut == Tryz.f12.resultTypes.toList.any (Tryz.pinned.checked.prog.ifacesRec ·))) = true := by kernel_rfl
theorem k12_k21 : ((Rows.feeGracesRow.loopsOut == Tryz.f12.resultTypes.toList.any (Tryz.pinned.checked.prog.loopsFrom ·))) = true := by kernel_rfl
theorem k12_k22 : ((Rows.feeGracesRow.plainKeys == Tryz.pinned.checked.prog.plainKeys)) = true := by kernel_rfl
theorem k12_k23 : (Rows.feeGracesRow.shortTexts.isNone) = true := by kernel_rfl
theorem k12_k24 : (Tryz.pinned.checked.prog.stopsHeard) = true := by kernel_rfl
theorem k12_k25 : (Tryz.pinned.checked.prog.mayEnter) = true := by kernel_rfl
theorem k12_k26 : ((Rows.feeGracesRow.lifted == Tryz.pinned.checked.prog.liftsFinal)) = true := by kernel_rfl
theorem k12_k27 : ((Tryz.pinned.checked.prog.make == some Rows.feeGracesRow.make)) = true := by kernel_rfl
theorem k12_k28 : ((Rows.feeGracesRow.kinds == (if Rows.feeGracesRow.domain.isEmpty then [] else Tryz.f12.params.toList.map fun t => match Tryz.pinned.checked.prog.underlying t with | some (.int k) => some k | _ => none))) = true := by kernel_rfl
theorem k12_k29 : ((Rows.feeGracesRow.pinned == Rows.feeGracesRow.pinnedBy)) = true := by kernel_rfl
theorem k12_k30 : ((Rows.feeGracesRow.veiled == (Tryz.f12.params.toList ++ Rows.feeGracesSpec.plain.varTypes Tryz.pinned.checked.prog ++ Tryz.f12.resultTypes.toList).any (Tryz.pinned.checked.prog.veiledRec ·))) = true := by kernel_rfl
theorem k12_k31 : (Rows.feeGracesRow.veiledFits Tryz.pinned.checked.prog Tryz.f12.params.toList (Tryz.f12.params.toList ++ Rows.feeGracesSpec.plain.varTypes Tryz.pinned.checked.prog ++ Tryz.f12.resultTypes.toList)) = true := by kernel_rfl
theorem k12_closed : joinedFacts Tryz.pinned.checked.prog 12 Tryz.f12 Rows.feeGracesSpec Rows.feeGracesRow = true := k12_and (k12_and (k12_and (k12_and (k12_and (k12_and (k12_and (k12_and (k12_and (k12_and (k12_and (k12_and (k12_and (k12_and (k12_and (k12_and (k12_and (k12_and (k12_and (k12_and (k12_and (k12_and (k12_and (k12_and (k12_and (k12_and (k12_and (k12_and (k12_and (k12_and (k12_and (k12_k0) k12_k1) k12_k2) k12_k3) k12_k4) k12_k5) k12_k6) k12_k7) k12_k8) k12_k9) k12_k10) k12_k11) k12_k12) k12_k13) k12_k14) k12_k15) k12_k16) k12_k17) k12_k18) k12_k19) k12_k20) k12_k21) k12_k22) k12_k23) k12_k24) k12_k25) k12_k26) k12_k27) k12_k28) k12_k29) k12_k30) k12_k31
theorem k12_named : Tryz.pinned.checked.prog.funcNamed Rows.feeGracesRow.func = some 12 := by kernel_rfl
theorem k12_inst : Tryz.f12.isInstance Tryz.pinned.checked.prog Rows.feeGracesRow.origin Rows.feeGracesRow.targs := of_decide_eq_true (by kernel_rfl)
theorem k12_wrap : Tryz.f12.isWrapper Tryz.pinned.checked.prog Rows.feeGracesRow.wrapper Rows.feeGracesRow.mainSum := by unfold Func.isWrapper; first | (rw [if_pos (by decide +kernel)]; kernel_rfl) | (rw [if_neg (by decide +kernel)]; exact ⟨rfl, rfl⟩)
end Go.Proofs.YtnkejaohnhpbpaaGreatDoor

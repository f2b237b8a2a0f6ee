/- The closed facts of a row, one theorem each (feeDaysRow). PRINTED BY A PROGRAM (z7.py). -/
import Derived.Test.YtnkejaohnhpbpaaGreatDoorTie
import Derived.Test.YtnkejaohnhpbpaaGreatDoorCards
import Derived.JoinedOf
import Derived.Conc.Holds
set_option linter.all false
namespace Go.Proofs.YtnkejaohnhpbpaaGreatDoor
open Go
theorem fd_and {a b : Bool} (h : a = true) (k : b = true) : (a && b) = true := by rw [h, k]; rfl
set_option maxRecDepth 100000
theorem fd_k0 : (Rows.feeDaysRow.wf (OpenSpec.ofChange Rows.feeDaysSpec)) = true := by kernel_rfl
theorem fd_k1 : (laidOutB Tryz.pinned.checked.prog) = true := by kernel_rfl
theorem fd_k2 : (mapsRowed Tryz.pinned.checked.prog) = true := by kernel_rfl
theorem fd_k3 : (Tryz.f8.params.all (Tryz.pinned.checked.prog.readableRec ·)) = true := by kernel_rfl
theorem fd_k4 : (namedTie Tryz.pinned.checked.prog Rows.feeDaysRow.named Rows.feeDaysSpec.vars) = true := by kernel_rfl
theorem fd_k5 : ((Rows.feeDaysRow.stops == [])) = true := by kernel_rfl
theorem fd_k6 : ((Tryz.pinned.checked.prog.stops == [])) = true := by kernel_rfl
theorem fd_k7 : ((Rows.feeDaysRow.knobs == [])) = true := by kernel_rfl
theorem fd_k8 : ((Tryz.pinned.checked.prog.stopKnobs == [])) = true := by kernel_rfl
theorem fd_k9 : ((Rows.feeDaysRow.inPlace == Tryz.pinned.checked.prog.inPlace 8)) = true := by kernel_rfl
theorem fd_k10 : ((Rows.feeDaysRow.unfollowed == Tryz.pinned.checked.prog.unfollowed 8)) = true := by kernel_rfl
theorem fd_k11 : ((Rows.feeDaysRow.recurses == Tryz.pinned.checked.prog.recurses 8)) = true := by kernel_rfl
theorem fd_k12 : ((Rows.feeDaysRow.named == Tryz.pinned.checked.prog.varsNamed 8)) = true := by kernel_rfl
theorem fd_k13 : ((Rows.feeDaysRow.maps == (Tryz.f8.params.toList ++ Rows.feeDaysSpec.plain.varTypes Tryz.pinned.checked.prog).any (Tryz.pinned.checked.prog.mapsRec ·))) = true := by kernel_rfl
theorem fd_k14 : ((Rows.feeDaysRow.ifaces == (Tryz.f8.params.toList ++ Rows.feeDaysSpec.plain.varTypes Tryz.pinned.checked.prog).any (Tryz.pinned.checked.prog.ifacesRec ·))) = true := by kernel_rfl
theorem fd_k15 : ((Rows.feeDaysRow.mapsOut == Tryz.pinned.checked.prog.mapsAmong Tryz.f8.resultTypes.toList)) = true := by kernel_rfl
theorem fd_k16 : ((Rows.feeDaysRow.loops == (Tryz.f8.params.toList ++ Rows.feeDaysSpec.plain.varTypes Tryz.pinned.checked.prog).any (Tryz.pinned.checked.prog.loopsFrom ·))) = true := by kernel_rfl
theorem fd_k17 : ((Rows.feeDaysRow.wideKeys == (Tryz.f8.params.toList ++ Rows.feeDaysSpec.plain.varTypes Tryz.pinned.checked.prog ++ Tryz.f8.resultTypes.toList).any (Tryz.pinned.checked.prog.wideKeysFrom ·))) = true := by kernel_rfl
theorem fd_k18 : (Rows.feeDaysSpec.vars.all (Tryz.pinned.checked.prog.varReadable ·)) = true := by kernel_rfl
theorem fd_k19 : (Tryz.f8.resultTypes.all (fun t => Tryz.pinned.checked.prog.readableRec t && decide (t < Tryz.pinned.checked.prog.types.size))) = true := by kernel_rfl
theorem fd_k20 : ((Rows.feeDaysRow.ifacesOut == Tryz.f8.resultTypes.toList.any (Tryz.pinned.checked.prog.ifacesRec ·))) = true := by kernel_rfl
theorem fd_k21 : ((Rows.feeDaysRow.loopsOut == Tryz.f8.resultTypes.toList.any (Tryz.pinned.checked.prog.loopsFrom ·))) = true := by kernel_rfl
theorem fd_k22 : ((Rows.feeDaysRow.plainKeys == Tryz.pinned.checked.prog.plainKeys)) = true := by kernel_rfl
theorem fd_k23 : (Rows.feeDaysRow.shortTexts.isNone) = true := by kernel_rfl
theorem fd_k24 : (Tryz.pinned.checked.prog.stopsHeard) = true := by kernel_rfl
theorem fd_k25 : (Tryz.pinned.checked.prog.mayEnter) = true := by kernel_rfl
theorem fd_k26 : ((Rows.feeDaysRow.lifted == Tryz.pinned.checked.prog.liftsFinal)) = true := by kernel_rfl
theorem fd_k27 : ((Tryz.pinned.checked.prog.make == some Rows.feeDaysRow.make)) = true := by kernel_rfl
theorem fd_k28 : ((Rows.feeDaysRow.kinds == (if Rows.feeDaysRow.domain.isEmpty then [] else Tryz.f8.params.toList.map fun t => match Tryz.pinned.checked.prog.underlying t with | some (.int k) => some k | _ => none))) = true := by kernel_rfl
theorem fd_k29 : ((Rows.feeDaysRow.pinned == Rows.feeDaysRow.pinnedBy)) = true := by kernel_rfl
theorem fd_k30 : ((Rows.feeDaysRow.veiled == (Tryz.f8.params.toList ++ Rows.feeDaysSpec.plain.varTypes Tryz.pinned.checked.prog ++ Tryz.f8.resultTypes.toList).any (Tryz.pinned.checked.prog.veiledRec ·))) = true := by kernel_rfl
theorem fd_k31 : (Rows.feeDaysRow.veiledFits Tryz.pinned.checked.prog Tryz.f8.params.toList (Tryz.f8.params.toList ++ Rows.feeDaysSpec.plain.varTypes Tryz.pinned.checked.prog ++ Tryz.f8.resultTypes.toList)) = true := by kernel_rfl
theorem fd_closed : joinedFacts Tryz.pinned.checked.prog 8 Tryz.f8 Rows.feeDaysSpec Rows.feeDaysRow = true := fd_and (fd_and (fd_and (fd_and (fd_and (fd_and (fd_and (fd_and (fd_and (fd_and (fd_and (fd_and (fd_and (fd_and (fd_and (fd_and (fd_and (fd_and (fd_and (fd_and (fd_and (fd_and (fd_and (fd_and (fd_and (fd_and (fd_and (fd_and (fd_and (fd_and (fd_and (fd_k0) fd_k1) fd_k2) fd_k3) fd_k4) fd_k5) fd_k6) fd_k7) fd_k8) fd_k9) fd_k10) fd_k11) fd_k12) fd_k13) fd_k14) fd_k15) fd_k16) fd_k17) fd_k18) fd_k19) fd_k20) fd_k21) fd_k22) fd_k23) fd_k24) fd_k25) fd_k26) fd_k27) fd_k28) fd_k29) fd_k30) fd_k31
theorem fd_named : Tryz.pinned.checked.prog.funcNamed Rows.feeDaysRow.func = some 8 := by kernel_rfl
theorem fd_inst : Tryz.f8.isInstance Tryz.pinned.checked.prog Rows.feeDaysRow.origin Rows.feeDaysRow.targs := of_decide_eq_true (by kernel_rfl)
theorem fd_wrap : Tryz.f8.isWrapper Tryz.pinned.checked.prog Rows.feeDaysRow.wrapper Rows.feeDaysRow.mainSum := by unfold Func.isWrapper; first | (rw [if_pos (by decide +kernel)]; kernel_rfl) | (rw [if_neg (by decide +kernel)]; exact ⟨rfl, rfl⟩)
end Go.Proofs.YtnkejaohnhpbpaaGreatDoor

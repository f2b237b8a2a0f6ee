/- The closed facts of a row, one theorem each (feeSumsRow). PRINTED BY A PROGRAM (z7.py). -/
import Derived.Test.YtnkejaohnhpbpaaGreatDoorTie
import Derived.Test.YtnkejaohnhpbpaaGreatDoorCards
import Derived.JoinedOf
import Derived.Conc.Holds
import Derived.Test.YtnkejaohnhpbpaaGreatDoorA44
import Derived.Test.YtnkejaohnhpbpaaGreatDoorA49
set_option linter.all false
section
namespace Go.Proofs.YtnkejaohnhpbpaaGreatDoor
open Go
theorem k6_and {a b : Bool} (h : a = true) (k : b = true) : (a && b) = true := by rw [h, k]; rfl
set_option maxRecDepth 100000
theorem k6_k0 : (Rows.feeSumsRow.wf (OpenSpec.ofChange Rows.feeSumsSpec)) = true := by kernel_rfl
theorem k6_k1 : (laidOutB Tryz.pinned.checked.prog) = true := by kernel_rfl
theorem k6_k2 : (mapsRowed Tryz.pinned.checked.prog) = true := by kernel_rfl
theorem k6_k3 : (Tryz.f6.params.all (Tryz.pinned.checked.prog.readableRec ·)) = true := by kernel_rfl
theorem k6_k4 : (namedTie Tryz.pinned.checked.prog Rows.feeSumsRow.named Rows.feeSumsSpec.vars) = true := by kernel_rfl
theorem k6_k5 : ((Rows.feeSumsRow.stops == [])) = true := by kernel_rfl
theorem k6_k6 : ((Tryz.pinned.checked.prog.stops == [])) = true := by kernel_rfl
theorem k6_k7 : ((Rows.feeSumsRow.knobs == [])) = true := by kernel_rfl
theorem k6_k8 : ((Tryz.pinned.checked.prog.stopKnobs == [])) = true := by kernel_rfl
theorem k6_k9 : ((Rows.feeSumsRow.inPlace == Tryz.pinned.checked.prog.inPlace 6)) = true := by kernel_rfl
theorem k6_k10 : ((Rows.feeSumsRow.unfollowed == Tryz.pinned.checked.prog.unfollowed 6)) = true := by kernel_rfl
theorem k6_k11 : ((Rows.feeSumsRow.recurses == Tryz.pinned.checked.prog.recurses 6)) = true := by kernel_rfl
theorem k6_k12 : ((Rows.feeSumsRow.named == Tryz.pinned.checked.prog.varsNamed 6)) = true := by kernel_rfl
theorem k6_k13 : ((Rows.feeSumsRow.maps == (Tryz.f6.params.toList ++ Rows.feeSumsSpec.plain.varTypes Tryz.pinned.checked.prog).any (Tryz.pinned.checked.prog.mapsRec ·))) = true := by kernel_rfl
theorem k6_k14 : ((Rows.feeSumsRow.ifaces == (Tryz.f6.params.toList ++ Rows.feeSumsSpec.plain.varTypes Tryz.pinned.checked.prog).any (Tryz.pinned.checked.prog.ifacesRec ·))) = true := by kernel_rfl
theorem k6_k15 : ((Rows.feeSumsRow.mapsOut == Tryz.pinned.checked.prog.mapsAmong Tryz.f6.resultTypes.toList)) = true := by kernel_rfl
theorem k6_k16 : ((Rows.feeSumsRow.loops == (Tryz.f6.params.toList ++ Rows.feeSumsSpec.plain.varTypes Tryz.pinned.checked.prog).any (Tryz.pinned.checked.prog.loopsFrom ·))) = true := by kernel_rfl
theorem k6_k17 : ((Rows.feeSumsRow.wideKeys == (Tryz.f6.params.toList ++ Rows.feeSumsSpec.plain.varTypes Tryz.pinned.checked.prog ++ Tryz.f6.resultTypes.toList).any (Tryz.pinned.checked.prog.wideKeysFrom ·))) = true := by kernel_rfl
theorem k6_k18 : (Rows.feeSumsSpec.vars.all (Tryz.pinned.checked.prog.varReadable ·)) = true := by kernel_rfl
theorem k6_k19 : (Tryz.f6.resultTypes.all (fun t => Tryz.pinned.checked.prog.readableRec t && decide (t < Tryz.pinned.checked.prog.types.size))) = true := by kernel_rfl
theorem k6_k20 : ((Rows.feeSumsRow.ifacesOut == Tryz.f6.resultTypes.toList.any (Tryz.pinned.checked.prog.ifacesRec ·))) = true := by kernel_rfl
theorem k6_k21 : ((Rows.feeSumsRow.loopsOut == Tryz.f6.resultTypes.toList.any (Tryz.pinned.checked.prog.loopsFrom ·))) = true := by kernel_rfl
theorem k6_k22 : ((Rows.feeSumsRow.plainKeys == Tryz.pinned.checked.prog.plainKeys)) = true := by kernel_rfl
theorem k6_k23 : (Rows.feeSumsRow.shortTexts.isNone) = true := by kernel_rfl
theorem k6_k24 : (Tryz.pinned.checked.prog.stopsHeard) = true := by kernel_rfl
theorem k6_k25 : (Tryz.pinned.checked.prog.mayEnter) = true := by kernel_rfl
theorem k6_k26 : ((Rows.feeSumsRow.lifted == Tryz.pinned.checked.prog.liftsFinal)) = true := by kernel_rfl
theorem k6_k27 : ((Tryz.pinned.checked.prog.make == some Rows.feeSumsRow.make)) = true := by kernel_rfl
theorem k6_k28 : ((Rows.feeSumsRow.kinds == (if Rows.feeSumsRow.domain.isEmpty then [] else Tryz.f6.params.toList.map fun t => match Tryz.pinned.checked.prog.underlying t with | some (.int k) => some k | _ => none))) = true := by kernel_rfl
theorem k6_k29 : ((Rows.feeSumsRow.pinned == Rows.feeSumsRow.pinnedBy)) = true := by kernel_rfl
theorem k6_k30 : ((Rows.feeSumsRow.veiled == (Tryz.f6.params.toList ++ Rows.feeSumsSpec.plain.varTypes Tryz.pinned.checked.prog ++ Tryz.f6.resultTypes.toList).any (Tryz.pinned.checked.prog.veiledRec ·))) = true := by kernel_rfl
theorem k6_k31 : (Rows.feeSumsRow.veiledFits Tryz.pinned.checked.prog Tryz.f6.params.toList (Tryz.f6.params.toList ++ Rows.feeSumsSpec.plain.varTypes Tryz.pinned.checked.prog ++ Tryz.f6.resultTypes.toList)) = true := by kernel_rfl
theorem k6_closed : joinedFacts Tryz.pinned.checked.prog 6 Tryz.f6 Rows.feeSumsSpec Rows.feeSumsRow = true := k6_and (k6_and (k6_and (k6_and (k6_and (k6_and (k6_and (k6_and (k6_and (k6_and (k6_and (k6_and (k6_and (k6_and (k6_and (k6_and (k6_and (k6_and (k6_and (k6_and (k6_and (k6_and (k6_and (k6_and (k6_and (k6_and (k6_and (k6_and (k6_and (k6_and (k6_and (k6_k0) k6_k1) k6_k2) k6_k3) k6_k4) k6_k5) k6_k6) k6_k7) k6_k8) k6_k9) k6_k10) k6_k11) k6_k12) k6_k13) k6_k14) k6_k15) k6_k16) k6_k17) k6_k18) k6_k19) k6_k20) k6_k21) k6_k22) k6_k23) k6_k24) k6_k25) k6_k26) k6_k27) k6_k28) k6_k29) k6_k30) k6_k31
theorem k6_named : Tryz.pinned.checked.prog.funcNamed Rows.feeSumsRow.func = some 6 := by kernel_rfl
theorem k6_inst : Tryz.f6.isInstance Tryz.pinned.checked.prog Rows.feeSumsRow.origin Rows.feeSumsRow.targs := of_decide_eq_true (by kernel_rfl)
theorem k6_wrap : Tryz.f6.isWrapper Tryz.pinned.checked.prog Rows.feeSumsRow.wrapper Rows.feeSumsRow.mainSum := by unfold Func.isWrapper; first | (rw [if_pos (by decide +kernel)]; kernel_rfl) | (rw [if_neg (by decide +kernel)]; exact ⟨rfl, rfl⟩)
end Go.Proofs.YtnkejaohnhpbpaaGreatDoor
end
/- FeeSums returns true for every book and day, and leaves its arguments as they were: on every schedule, without a race, every other goroutine only leaving at its return. Its row lists the program's own table of kinds and two tables of package utf8 (tied to the program's text). PRINTED BY A PROGRAM (zrow.py). -/
section
namespace Go.Proofs.YtnkejaohnhpbpaaGreatDoor
open Go Go.Conc Go.RowKit Go.ChangeShapes Go.WideShapes Lift
set_option maxRecDepth 100000 in
theorem feeSums_lifted (os : Os) (started : os.Started) (H : Type) (enc : TypeId × Value → H) :
  ReturnsInLeavingWide {} Tryz.checked os 6 .any (fun w args => (Rows.feeSumsSpec.pre enc Tryz.prog Tryz.f6 [] false w args ∧ laidMetH Tryz.prog laidAll w) ∧ sizedMet enc Tryz.prog Tryz.f6 (OpenSpec.ofChange Rows.feeSumsSpec) false w args)
   (Rows.feeSumsSpec.post enc Tryz.prog Tryz.f6 false true false false) := by
 refine leaving_of_runs (C := Tryz.checked) (X := fun w _ => laidMetH Tryz.prog laidAll w) (fun _ _ _ hh h => h.of_heap hh) own started Tryz.func6
  (ChangeSpec.witness_shaped (enc := enc) (C := Tryz.checked) (os := os) (X := fun w _ => laidMetH Tryz.prog laidAll w) false (witW os) #[.agg #[.slice none 0 0, .slice none 0 0, .slice none 0 0, .slice none 0 0], .int .u16 0] 6 (wit_os os) (wit_shaped os _) (by kernel_rfl) (by kernel_rfl) (by kernel_rfl) (door_met os _)) ?_
 intro W base args ds gs before hval0 hW hL
 have hval : ∀ (j : Nat) t v, Tryz.f6.params[j]? = some t → args[j]? = some v → Value.okWide Tryz.prog W .any base t v := hval0
 have hW' := hW
 obtain ⟨p, q, hA0, hV, rfl, _, _⟩ := hW
 have hA : DataW.TrodAll enc Tryz.prog W 0 (fun _ => true) true Tryz.f6.params.toList args.toList ds p := hA0
 rw [Tryz.params6] at hA hval
 obtain ⟨v0, v1, d0, d1, p0, p1, rfl, rfl, rfl, h0, h1⟩ := trodAll_two hA
 obtain ⟨l, b, rfl, hcap, hbk⟩ := open_book (hval 0 27 v0 rfl rfl) h0
 obtain ⟨x1, rfl, -, -, w1⟩ := open_int Tryz.underlying53 (hval 1 53 v1 rfl rfl) h1
 have hk := kinds_of_laid hL
 have hx1 : 0 ≤ x1 ∧ x1 ≤ 65535 := by simpa [Lit.wf, IntKind.min, IntKind.max, IntKind.signed, IntKind.bits] using w1
 obtain ⟨N, last, o, w', t', e1, e2, e3, e4⟩ := law_ends (P := Tryz.prog) (wa := W) (args := #[.agg (l.rarr b), .int .u16 x1]) Tryz.func6 rfl (by kernel_rfl) fun w hcell hs hlim =>
  law6 (hbk.cells hcell hs) hcap (fun j v hj => (hcell _).trans (hk j v hj)) (by rw [hlim, hs]; exact Nat.le_refl _) hx1.1 hx1.2
 exact ⟨N, last, o, w', t', e1, e2, e3, e4.mono fun v hv => by
  obtain ⟨rfl, hb⟩ := hv
  exact post_true rfl rfl (by kernel_rfl) (fun l hl => by match l, hl with | [_, _], _ => exact ⟨rfl, rfl, rfl⟩) hW' rfl hb⟩
theorem feeSums_holds : Rows.FeeSumsSaid :=
 OpenClaim.holds_of_wide_leaving 6 Tryz.f6 rfl rfl rfl rfl rfl rfl rfl ⟨rfl, rfl, rfl, rfl, rfl⟩ rfl rfl rfl rfl rfl k6_named Tryz.func6 k6_closed k6_inst k6_wrap
  (fun os started H enc _ => feeSums_lifted os started H enc)
theorem feeSums_card : Rows.FeeSumsCardSaid :=
 card_goes [.data, .funcsDeep, .pinned] true (true, "78367989f1779c6ad5062e28a7d61523e937c9c2f303a8adb35e256f7f7bb139") false feeSums_holds (by kernel_rfl) feeSums_row_tie rfl ⟨rfl, rfl⟩ (by kernel_rfl) rfl
  (fun f fn hf hfn => by
   obtain rfl : f = 6 := Option.some.inj (k6_named.symm.trans hf) |>.symm
   obtain rfl : fn = Tryz.f6 := (Option.some.inj (Tryz.func6.symm.trans hfn)).symm
   exact ⟨by kernel_rfl, fun j t ht => by
    rw [Tryz.params6] at ht
    have hm : t ∈ [27, 53] := by simpa using Array.mem_of_getElem? ht
    have hall : ([27, 53].all fun u => !Tryz.prog.wantsStandIn u) = true := by kernel_rfl
    exact (show Tryz.prog.wantsStandIn t = false by simpa using List.all_eq_true.1 hall t hm)⟩)
  (by kernel_rfl)
end Go.Proofs.YtnkejaohnhpbpaaGreatDoor
end

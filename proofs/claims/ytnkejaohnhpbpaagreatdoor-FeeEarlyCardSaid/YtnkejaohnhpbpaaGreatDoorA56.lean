/- The closed facts of a row, one theorem each (feeEarlyRow). PRINTED BY A PROGRAM (z7.py). -/
import Derived.Test.YtnkejaohnhpbpaaGreatDoorTie
import Derived.Test.YtnkejaohnhpbpaaGreatDoorCards
import Derived.JoinedOf
import Derived.Conc.Holds
import Derived.Test.YtnkejaohnhpbpaaGreatDoorA44
import Derived.Test.YtnkejaohnhpbpaaGreatDoorA54
import Derived.Test.YtnkejaohnhpbpaaGreatDoorA55
set_option linter.all false
section
namespace Go.Proofs.YtnkejaohnhpbpaaGreatDoor
open Go
theorem k11_and {a b : Bool} (h : a = true) (k : b = true) : (a && b) = true := by rw [h, k]; rfl
set_option maxRecDepth 100000
theorem k11_k0 : (Rows.feeEarlyRow.wf (OpenSpec.ofChange Rows.feeEarlySpec)) = true := by kernel_rfl
theorem k11_k1 : (laidOutB Tryz.pinned.checked.prog) = true := by kernel_rfl
theorem k11_k2 : (mapsRowed Tryz.pinned.checked.prog) = true := by kernel_rfl
theorem k11_k3 : (Tryz.f11.params.all (Tryz.pinned.checked.prog.readableRec ·)) = true := by kernel_rfl
theorem k11_k4 : (namedTie Tryz.pinned.checked.prog Rows.feeEarlyRow.named Rows.feeEarlySpec.vars) = true := by kernel_rfl
theorem k11_k5 : ((Rows.feeEarlyRow.stops == [])) = true := by kernel_rfl
theorem k11_k6 : ((Tryz.pinned.checked.prog.stops == [])) = true := by kernel_rfl
theorem k11_k7 : ((Rows.feeEarlyRow.knobs == [])) = true := by kernel_rfl
theorem k11_k8 : ((Tryz.pinned.checked.prog.stopKnobs == [])) = true := by kernel_rfl
theorem k11_k9 : ((Rows.feeEarlyRow.inPlace == Tryz.pinned.checked.prog.inPlace 11)) = true := by kernel_rfl
theorem k11_k10 : ((Rows.feeEarlyRow.unfollowed == Tryz.pinned.checked.prog.unfollowed 11)) = true := by kernel_rfl
theorem k11_k11 : ((Rows.feeEarlyRow.recurses == Tryz.pinned.checked.prog.recurses 11)) = true := by kernel_rfl
theorem k11_k12 : ((Rows.feeEarlyRow.named == Tryz.pinned.checked.prog.varsNamed 11)) = true := by kernel_rfl
theorem k11_k13 : ((Rows.feeEarlyRow.maps == (Tryz.f11.params.toList ++ Rows.feeEarlySpec.plain.varTypes Tryz.pinned.checked.prog).any (Tryz.pinned.checked.prog.mapsRec ·))) = true := by kernel_rfl
theorem k11_k14 : ((Rows.feeEarlyRow.ifaces == (Tryz.f11.params.toList ++ Rows.feeEarlySpec.plain.varTypes Tryz.pinned.checked.prog).any (Tryz.pinned.checked.prog.ifacesRec ·))) = true := by kernel_rfl
theorem k11_k15 : ((Rows.feeEarlyRow.mapsOut == Tryz.pinned.checked.prog.mapsAmong Tryz.f11.resultTypes.toList)) = true := by kernel_rfl
theorem k11_k16 : ((Rows.feeEarlyRow.loops == (Tryz.f11.params.toList ++ Rows.feeEarlySpec.plain.varTypes Tryz.pinned.checked.prog).any (Tryz.pinned.checked.prog.loopsFrom ·))) = true := by kernel_rfl
theorem k11_k17 : ((Rows.feeEarlyRow.wideKeys == (Tryz.f11.params.toList ++ Rows.feeEarlySpec.plain.varTypes Tryz.pinned.checked.prog ++ Tryz.f11.resultTypes.toList).any (Tryz.pinned.checked.prog.wideKeysFrom ·))) = true := by kernel_rfl
theorem k11_k18 : (Rows.feeEarlySpec.vars.all (Tryz.pinned.checked.prog.varReadable ·)) = true := by kernel_rfl
theorem k11_k19 : (Tryz.f11.resultTypes.all (fun t => Tryz.pinned.checked.prog.readableRec t && decide (t < Tryz.pinned.checked.prog.types.size))) = true := by kernel_rfl
theorem k11_k20 : ((Rows.feeEarlyRow.ifacesOut == Tryz.f11.resultTypes.toList.any (Tryz.pinned.checked.prog.ifacesRec ·))) = true := by kernel_rfl
theorem k11_k21 : ((Rows.feeEarlyRow.loopsOut == Tryz.f11.resultTypes.toList.any (Tryz.pinned.checked.prog.loopsFrom ·))) = true := by kernel_rfl
theorem k11_k22 : ((Rows.feeEarlyRow.plainKeys == Tryz.pinned.checked.prog.plainKeys)) = true := by kernel_rfl
theorem k11_k23 : (Rows.feeEarlyRow.shortTexts.isNone) = true := by kernel_rfl
theorem k11_k24 : (Tryz.pinned.checked.prog.stopsHeard) = true := by kernel_rfl
theorem k11_k25 : (Tryz.pinned.checked.prog.mayEnter) = true := by kernel_rfl
theorem k11_k26 : ((Rows.feeEarlyRow.lifted == Tryz.pinned.checked.prog.liftsFinal)) = true := by kernel_rfl
theorem k11_k27 : ((Tryz.pinned.checked.prog.make == some Rows.feeEarlyRow.make)) = true := by kernel_rfl
theorem k11_k28 : ((Rows.feeEarlyRow.kinds == (if Rows.feeEarlyRow.domain.isEmpty then [] else Tryz.f11.params.toList.map fun t => match Tryz.pinned.checked.prog.underlying t with | some (.int k) => some k | _ => none))) = true := by kernel_rfl
theorem k11_k29 : ((Rows.feeEarlyRow.pinned == Rows.feeEarlyRow.pinnedBy)) = true := by kernel_rfl
theorem k11_k30 : ((Rows.feeEarlyRow.veiled == (Tryz.f11.params.toList ++ Rows.feeEarlySpec.plain.varTypes Tryz.pinned.checked.prog ++ Tryz.f11.resultTypes.toList).any (Tryz.pinned.checked.prog.veiledRec ·))) = true := by kernel_rfl
theorem k11_k31 : (Rows.feeEarlyRow.veiledFits Tryz.pinned.checked.prog Tryz.f11.params.toList (Tryz.f11.params.toList ++ Rows.feeEarlySpec.plain.varTypes Tryz.pinned.checked.prog ++ Tryz.f11.resultTypes.toList)) = true := by kernel_rfl
theorem k11_closed : joinedFacts Tryz.pinned.checked.prog 11 Tryz.f11 Rows.feeEarlySpec Rows.feeEarlyRow = true := k11_and (k11_and (k11_and (k11_and (k11_and (k11_and (k11_and (k11_and (k11_and (k11_and (k11_and (k11_and (k11_and (k11_and (k11_and (k11_and (k11_and (k11_and (k11_and (k11_and (k11_and (k11_and (k11_and (k11_and (k11_and (k11_and (k11_and (k11_and (k11_and (k11_and (k11_and (k11_k0) k11_k1) k11_k2) k11_k3) k11_k4) k11_k5) k11_k6) k11_k7) k11_k8) k11_k9) k11_k10) k11_k11) k11_k12) k11_k13) k11_k14) k11_k15) k11_k16) k11_k17) k11_k18) k11_k19) k11_k20) k11_k21) k11_k22) k11_k23) k11_k24) k11_k25) k11_k26) k11_k27) k11_k28) k11_k29) k11_k30) k11_k31
theorem k11_named : Tryz.pinned.checked.prog.funcNamed Rows.feeEarlyRow.func = some 11 := by kernel_rfl
theorem k11_inst : Tryz.f11.isInstance Tryz.pinned.checked.prog Rows.feeEarlyRow.origin Rows.feeEarlyRow.targs := of_decide_eq_true (by kernel_rfl)
theorem k11_wrap : Tryz.f11.isWrapper Tryz.pinned.checked.prog Rows.feeEarlyRow.wrapper Rows.feeEarlyRow.mainSum := by unfold Func.isWrapper; first | (rw [if_pos (by decide +kernel)]; kernel_rfl) | (rw [if_neg (by decide +kernel)]; exact ⟨rfl, rfl⟩)
end Go.Proofs.YtnkejaohnhpbpaaGreatDoor
end
section
namespace Go.Proofs.YtnkejaohnhpbpaaGreatDoor
open Go Go.Conc Go.RowKit Go.ChangeShapes Go.WideShapes Lift
set_option maxRecDepth 100000 in
theorem feeEarly_lifted (os : Os) (started : os.Started) (H : Type) (enc : TypeId × Value → H) :
  ReturnsInLeavingWide {} Tryz.checked os 11 .any (fun w args => (Rows.feeEarlySpec.pre enc Tryz.prog Tryz.f11 [] false w args ∧ laidMetH Tryz.prog laidAll w) ∧ sizedMet enc Tryz.prog Tryz.f11 (OpenSpec.ofChange Rows.feeEarlySpec) false w args)
   (Rows.feeEarlySpec.post enc Tryz.prog Tryz.f11 false true false false) := by
 refine leaving_of_runs (C := Tryz.checked) (X := fun w _ => laidMetH Tryz.prog laidAll w) (fun _ _ _ hh h => h.of_heap hh) own started Tryz.func11
  (ChangeSpec.witness_shaped (enc := enc) (C := Tryz.checked) (os := os) (X := fun w _ => laidMetH Tryz.prog laidAll w) false (witW os) #[.agg #[.slice none 0 0, .slice none 0 0, .slice none 0 0, .slice none 0 0], .agg #[.int .i64 0, .int .i64 0, .int .i64 0, .int .i64 0, .int .i64 0], .int .u8 0, .int .u16 0] 11 (wit_os os) (wit_shaped os _) (by kernel_rfl) (by kernel_rfl) (by kernel_rfl) (door_met os _)) ?_
 intro W base args ds gs before hval0 hW hL
 have hval : ∀ (j : Nat) t v, Tryz.f11.params[j]? = some t → args[j]? = some v → Value.okWide Tryz.prog W .any base t v := hval0
 have hW' := hW
 obtain ⟨p, q, hA0, hV, rfl, _, _⟩ := hW
 have hA : DataW.TrodAll enc Tryz.prog W 0 (fun _ => true) true Tryz.f11.params.toList args.toList ds p := hA0
 rw [Tryz.params11] at hA hval
 obtain ⟨v0, v1, v2, v3, d0, d1, d2, d3, p0, p1, p2, p3, rfl, rfl, rfl, h0, h1, h2, h3⟩ := trodAll_four hA
 obtain ⟨l, b, rfl, hcap, hbk⟩ := open_book (hval 0 27 v0 rfl rfl) h0
 obtain ⟨x1, rfl⟩ := open_pay (hval 1 56 v1 rfl rfl) h1
 obtain ⟨x2, rfl, -, -, w2⟩ := open_int Tryz.underlying5 (hval 2 5 v2 rfl rfl) h2
 obtain ⟨x3, rfl, -, -, w3⟩ := open_int Tryz.underlying53 (hval 3 53 v3 rfl rfl) h3
 have hk := kinds_of_laid hL
 have hx2 : 0 ≤ x2 ∧ x2 ≤ 255 := by simpa [Lit.wf, IntKind.min, IntKind.max, IntKind.signed, IntKind.bits] using w2
 have hx3 : 0 ≤ x3 ∧ x3 ≤ 65535 := by simpa [Lit.wf, IntKind.min, IntKind.max, IntKind.signed, IntKind.bits] using w3
 obtain ⟨N, last, o, w', t', e1, e2, e3, e4⟩ := law_ends (P := Tryz.prog) (wa := W) (args := #[.agg (l.rarr b), .agg #[.int .i64 x1.kind, .int .i64 x1.day, .int .i64 x1.coin, .int .i64 x1.amount, .int .i64 x1.cas], .int .u8 x2, .int .u16 x3]) Tryz.func11 rfl (by kernel_rfl) fun w hcell hs hlim =>
  law11 (hbk.cells hcell hs) hcap (fun j v hj => (hcell _).trans (hk j v hj)) (by rw [hlim, hs]; exact Nat.le_refl _) hx2.1 hx2.2 hx3.1 hx3.2
 exact ⟨N, last, o, w', t', e1, e2, e3, e4.mono fun v hv => by
  obtain ⟨rfl, hb⟩ := hv
  exact post_true rfl rfl (by kernel_rfl) (fun l hl => by match l, hl with | [_, _, _, _], _ => exact ⟨rfl, rfl, rfl⟩) hW' rfl hb⟩
theorem feeEarly_holds : Rows.FeeEarlySaid :=
 OpenClaim.holds_of_wide_leaving 11 Tryz.f11 rfl rfl rfl rfl rfl rfl rfl ⟨rfl, rfl, rfl, rfl, rfl⟩ rfl rfl rfl rfl rfl k11_named Tryz.func11 k11_closed k11_inst k11_wrap
  (fun os started H enc _ => feeEarly_lifted os started H enc)
theorem feeEarly_card : Rows.FeeEarlyCardSaid :=
 card_goes [.data, .funcsDeep, .pinned] true (true, "78367989f1779c6ad5062e28a7d61523e937c9c2f303a8adb35e256f7f7bb139") false feeEarly_holds (by kernel_rfl) feeEarly_row_tie rfl ⟨rfl, rfl⟩ (by kernel_rfl) rfl
  (fun f fn hf hfn => by
   obtain rfl : f = 11 := Option.some.inj (k11_named.symm.trans hf) |>.symm
   obtain rfl : fn = Tryz.f11 := (Option.some.inj (Tryz.func11.symm.trans hfn)).symm
   exact ⟨by kernel_rfl, fun j t ht => by
    rw [Tryz.params11] at ht
    have hm : t ∈ [27, 56, 5, 53] := by simpa using Array.mem_of_getElem? ht
    have hall : ([27, 56, 5, 53].all fun u => !Tryz.prog.wantsStandIn u) = true := by kernel_rfl
    exact (show Tryz.prog.wantsStandIn t = false by simpa using List.all_eq_true.1 hall t hm)⟩)
  (by kernel_rfl)
end Go.Proofs.YtnkejaohnhpbpaaGreatDoor
end

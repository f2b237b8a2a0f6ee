/- FeeGraces returns true for every book and numbers, and leaves its arguments as they were: on every schedule, without a race, every other goroutine only leaving at its return. Its row lists the program's own table of kinds and two tables of package utf8 (tied to the program's text). PRINTED BY A PROGRAM (zrow.py). -/
import Derived.Test.YtnkejaohnhpbpaaGreatDoorA44
import Derived.Test.YtnkejaohnhpbpaaGreatDoorA60
import Derived.Test.YtnkejaohnhpbpaaGreatDoorA61
set_option linter.all false
namespace Go.Proofs.YtnkejaohnhpbpaaGreatDoor
open Go Go.Conc Go.RowKit Go.ChangeShapes Go.WideShapes Lift
set_option maxRecDepth 100000 in
theorem feeGraces_lifted (os : Os) (started : os.Started) (H : Type) (enc : TypeId × Value → H) :
  ReturnsInLeavingWide {} Tryz.checked os 12 .any (fun w args => (Rows.feeGracesSpec.pre enc Tryz.prog Tryz.f12 [] false w args ∧ laidMetH Tryz.prog laidAll w) ∧ sizedMet enc Tryz.prog Tryz.f12 (OpenSpec.ofChange Rows.feeGracesSpec) false w args)
   (Rows.feeGracesSpec.post enc Tryz.prog Tryz.f12 false true false false) := by
 refine leaving_of_runs (C := Tryz.checked) (X := fun w _ => laidMetH Tryz.prog laidAll w) (fun _ _ _ hh h => h.of_heap hh) own started Tryz.func12
  (ChangeSpec.witness_shaped (enc := enc) (C := Tryz.checked) (os := os) (X := fun w _ => laidMetH Tryz.prog laidAll w) false (witW os) #[.agg #[.slice none 0 0, .slice none 0 0, .slice none 0 0, .slice none 0 0], .int .u8 0, .int .u8 0, .int .u16 0] 12 (wit_os os) (wit_shaped os _) (by kernel_rfl) (by kernel_rfl) (by kernel_rfl) (door_met os _)) ?_
 intro W base args ds gs before hval0 hW hL
 have hval : ∀ (j : Nat) t v, Tryz.f12.params[j]? = some t → args[j]? = some v → Value.okWide Tryz.prog W .any base t v := hval0
 have hW' := hW
 obtain ⟨p, q, hA0, hV, rfl, _, _⟩ := hW
 have hA : DataW.TrodAll enc Tryz.prog W 0 (fun _ => true) true Tryz.f12.params.toList args.toList ds p := hA0
 rw [Tryz.params12] at hA hval
 obtain ⟨v0, v1, v2, v3, d0, d1, d2, d3, p0, p1, p2, p3, rfl, rfl, rfl, h0, h1, h2, h3⟩ := trodAll_four hA
 obtain ⟨l, b, rfl, hcap, hbk⟩ := open_book (hval 0 27 v0 rfl rfl) h0
 obtain ⟨x1, rfl, -, -, w1⟩ := open_int Tryz.underlying5 (hval 1 5 v1 rfl rfl) h1
 obtain ⟨x2, rfl, -, -, w2⟩ := open_int Tryz.underlying5 (hval 2 5 v2 rfl rfl) h2
 obtain ⟨x3, rfl, -, -, w3⟩ := open_int Tryz.underlying53 (hval 3 53 v3 rfl rfl) h3
 have hk := kinds_of_laid hL
 have hx1 : 0 ≤ x1 ∧ x1 ≤ 255 := by simpa [Lit.wf, IntKind.min, IntKind.max, IntKind.signed, IntKind.bits] using w1
 have hx2 : 0 ≤ x2 ∧ x2 ≤ 255 := by simpa [Lit.wf, IntKind.min, IntKind.max, IntKind.signed, IntKind.bits] using w2
 have hx3 : 0 ≤ x3 ∧ x3 ≤ 65535 := by simpa [Lit.wf, IntKind.min, IntKind.max, IntKind.signed, IntKind.bits] using w3
 obtain ⟨N, last, o, w', t', e1, e2, e3, e4⟩ := law_ends (P := Tryz.prog) (wa := W) (args := #[.agg (l.rarr b), .int .u8 x1, .int .u8 x2, .int .u16 x3]) Tryz.func12 rfl (by kernel_rfl) fun w hcell hs hlim =>
  law12 (hbk.cells hcell hs) hcap (fun j v hj => (hcell _).trans (hk j v hj)) (by rw [hlim, hs]; exact Nat.le_refl _) hx1.1 hx1.2 hx2.1 hx2.2 hx3.1 hx3.2
 exact ⟨N, last, o, w', t', e1, e2, e3, e4.mono fun v hv => by
  obtain ⟨rfl, hb⟩ := hv
  exact post_true rfl rfl (by kernel_rfl) (fun l hl => by match l, hl with | [_, _, _, _], _ => exact ⟨rfl, rfl, rfl⟩) hW' rfl hb⟩
theorem feeGraces_holds : Rows.FeeGracesSaid :=
 OpenClaim.holds_of_wide_leaving 12 Tryz.f12 rfl rfl rfl rfl rfl rfl rfl ⟨rfl, rfl, rfl, rfl, rfl⟩ rfl rfl rfl rfl rfl k12_named Tryz.func12 k12_closed k12_inst k12_wrap
  (fun os started H enc _ => feeGraces_lifted os started H enc)
theorem feeGraces_card : Rows.FeeGracesCardSaid :=
 card_goes [.data, .funcsDeep, .pinned] true (true, "78367989f1779c6ad5062e28a7d61523e937c9c2f303a8adb35e256f7f7bb139") false feeGraces_holds (by kernel_rfl) feeGraces_row_tie rfl ⟨rfl, rfl⟩ (by kernel_rfl) rfl
  (fun f fn hf hfn => by
   obtain rfl : f = 12 := Option.some.inj (k12_named.symm.trans hf) |>.symm
   obtain rfl : fn = Tryz.f12 := (Option.some.inj (Tryz.func12.symm.trans hfn)).symm
   exact ⟨by kernel_rfl, fun j t ht => by
    rw [Tryz.params12] at ht
    have hm : t ∈ [27, 5, 5, 53] := by simpa using Array.mem_of_getElem? ht
    have hall : ([27, 5, 5, 53].all fun u => !Tryz.prog.wantsStandIn u) = true := by kernel_rfl
    exact (show Tryz.prog.wantsStandIn t = false by simpa using List.all_eq_true.1 hall t hm)⟩)
  (by kernel_rfl)
end Go.Proofs.YtnkejaohnhpbpaaGreatDoor

/- FeeDays returns true for every book, case and day, and leaves its arguments as they were: on every schedule, without a race, every other goroutine only leaving at its return. Its row lists the program's own table of kinds and two tables of package utf8 (tied to the program's text). -/
import Derived.Test.YtnkejaohnhpbpaaGreatDoorA41
import Derived.Test.YtnkejaohnhpbpaaGreatDoorA44
import Derived.Test.YtnkejaohnhpbpaaGreatDoorA45
set_option linter.all false
namespace Go.Proofs.YtnkejaohnhpbpaaGreatDoor
open Go Go.Conc Go.RowKit Go.ChangeShapes Go.WideShapes Lift
set_option maxRecDepth 100000 in
theorem feeDays_lifted (os : Os) (started : os.Started) (H : Type) (enc : TypeId × Value → H) :
  ReturnsInLeavingWide {} Tryz.checked os 8 .any (fun w args => (Rows.feeDaysSpec.pre enc Tryz.prog Tryz.f8 [] false w args ∧ laidMetH Tryz.prog laidAll w) ∧ sizedMet enc Tryz.prog Tryz.f8 (OpenSpec.ofChange Rows.feeDaysSpec) false w args)
   (Rows.feeDaysSpec.post enc Tryz.prog Tryz.f8 false true false false) := by
 refine leaving_of_runs (C := Tryz.checked) (X := fun w _ => laidMetH Tryz.prog laidAll w) (fun _ _ _ hh h => h.of_heap hh) own started Tryz.func8
  (ChangeSpec.witness_shaped (enc := enc) (C := Tryz.checked) (os := os) (X := fun w _ => laidMetH Tryz.prog laidAll w) false (witW os) #[.agg #[.slice none 0 0, .slice none 0 0, .slice none 0 0, .slice none 0 0], .int .u8 0, .int .u16 0] 8 (wit_os os) (wit_shaped os _) (by kernel_rfl) (by kernel_rfl) (by kernel_rfl) (door_met os _)) ?_
 intro W base args ds gs before hval0 hW hL
 have hval : ∀ (j : Nat) t v, Tryz.f8.params[j]? = some t → args[j]? = some v → Value.okWide Tryz.prog W .any base t v := hval0
 have hW' := hW
 obtain ⟨p, q, hA0, hV, rfl, _, _⟩ := hW
 have hA : DataW.TrodAll enc Tryz.prog W 0 (fun _ => true) true Tryz.f8.params.toList args.toList ds p := hA0
 rw [Tryz.params8] at hA hval
 obtain ⟨v0, v1, v2, d0, d1, d2, p0, p1, p2, rfl, rfl, rfl, h0, h1, h2⟩ := trodAll_three hA
 obtain ⟨l, b, rfl, hcap, hbk⟩ := open_book (hval 0 27 v0 rfl rfl) h0
 obtain ⟨c, rfl, -, -, wc⟩ := open_int Tryz.underlying5 (hval 1 5 v1 rfl rfl) h1
 obtain ⟨day, rfl, -, -, wd⟩ := open_int Tryz.underlying53 (hval 2 53 v2 rfl rfl) h2
 have hk := kinds_of_laid hL
 have hc : 0 ≤ c ∧ c ≤ 255 := by simpa [Lit.wf, IntKind.min, IntKind.max, IntKind.signed, IntKind.bits] using wc
 have hd : 0 ≤ day ∧ day ≤ 65535 := by simpa [Lit.wf, IntKind.min, IntKind.max, IntKind.signed, IntKind.bits] using wd
 obtain ⟨N, last, o, w', t', e1, e2, e3, e4⟩ := law_ends (P := Tryz.prog) (wa := W) (args := #[.agg (l.rarr b), .int .u8 c, .int .u16 day]) Tryz.func8 rfl (by kernel_rfl) fun w hcell hs hlim =>
  law8 (hbk.cells hcell hs) hcap (fun j v hj => (hcell _).trans (hk j v hj)) (by rw [hlim, hs]; exact Nat.le_refl _) hc.1 hc.2 hd.1 hd.2
 exact ⟨N, last, o, w', t', e1, e2, e3, e4.mono fun v hv => by
  obtain ⟨rfl, hb⟩ := hv
  exact post_true rfl rfl (by kernel_rfl) (fun l hl => by match l, hl with | [_, _, _], _ => exact ⟨rfl, rfl, rfl⟩) hW' rfl hb⟩
theorem feeDays_holds : Rows.FeeDaysSaid :=
 OpenClaim.holds_of_wide_leaving 8 Tryz.f8 rfl rfl rfl rfl rfl rfl rfl ⟨rfl, rfl, rfl, rfl, rfl⟩ rfl rfl rfl rfl rfl fd_named Tryz.func8 fd_closed fd_inst fd_wrap
  (fun os started H enc _ => feeDays_lifted os started H enc)
theorem feeDays_card : Rows.FeeDaysCardSaid :=
 card_goes [.data, .funcsDeep, .pinned] true (true, "78367989f1779c6ad5062e28a7d61523e937c9c2f303a8adb35e256f7f7bb139") false feeDays_holds (by kernel_rfl) feeDays_row_tie rfl ⟨rfl, rfl⟩ (by kernel_rfl) rfl
  (fun f fn hf hfn => by
   obtain rfl : f = 8 := Option.some.inj ((show Tryz.prog.funcNamed "touchmark/touchmarklaw08.FeeDays" = some 8 by kernel_rfl).symm.trans hf) |>.symm
   obtain rfl : fn = Tryz.f8 := (Option.some.inj (Tryz.func8.symm.trans hfn)).symm
   exact ⟨by kernel_rfl, fun j t ht => by
    rw [Tryz.params8] at ht
    have hm : t ∈ [27, 5, 53] := by simpa using Array.mem_of_getElem? ht
    have hall : ([27, 5, 53].all fun u => !Tryz.prog.wantsStandIn u) = true := by kernel_rfl
    exact (show Tryz.prog.wantsStandIn t = false by simpa using List.all_eq_true.1 hall t hm)⟩)
  (by kernel_rfl)
end Go.Proofs.YtnkejaohnhpbpaaGreatDoor

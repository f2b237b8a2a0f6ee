/-
  DERIVED. GIVEN WITH THE SEED: THE CARDS: each row of YtnkejaohnhpbpaaGreatDoorRows.lean that lists a variable, with what it lists TIED to the program's text (the seventh form; the later family's looks); each row that meets fmt, with fmt's text TOLD by the authors' own Lean function (tested against real Go, not proved from fmt's source: count such statements apart). THE CARD IS WHAT COUNTS. Prove the row's statement (the work); the ties are given (YtnkejaohnhpbpaaGreatDoorTie.lean); close each card by the builder's one call (the guide's Derived/Test/ToyasCard.lean, 'card_holds'). Laid BY PROGRAM, IN A SANDBOX (cutbox-door.mjs). By AI agents, Wed Nov 11 2026. No macro, syntax, notation, axiom, sorry.
-/
import Derived.Test.YtnkejaohnhpbpaaGreatDoorRows
import GoSem.ClaimSeven
namespace Go.Proofs.YtnkejaohnhpbpaaGreatDoor
namespace Rows

/-- THE TIED CARD OF 'touchmarklaw08.FeeCases'. -/
def feeCasesCard : Claim7 := { stood := { row := feeCasesRow, standIns := [], harness := (true, "78367989f1779c6ad5062e28a7d61523e937c9c2f303a8adb35e256f7f7bb139"), looks := false }, kinds := [], alts := [], goes := true, laidByText := true, laidKinds := [.data, .funcsDeep, .pinned], laidTests := true, laidLooks := .later }
def FeeCasesCardSaid : Prop := Claim7.holds Tryz.pinned (.plain (OpenSpec.ofChange feeCasesSpec)) feeCasesCard

/-- THE TIED CARD OF 'touchmarklaw08.FeeBalances'. -/
def feeBalancesCard : Claim7 := { stood := { row := feeBalancesRow, standIns := [], harness := (true, "78367989f1779c6ad5062e28a7d61523e937c9c2f303a8adb35e256f7f7bb139"), looks := false }, kinds := [], alts := [], goes := true, laidByText := true, laidKinds := [.data, .funcsDeep, .pinned], laidTests := true, laidLooks := .later }
def FeeBalancesCardSaid : Prop := Claim7.holds Tryz.pinned (.plain (OpenSpec.ofChange feeBalancesSpec)) feeBalancesCard

/-- THE TIED CARD OF 'touchmarklaw08.FeePlans'. -/
def feePlansCard : Claim7 := { stood := { row := feePlansRow, standIns := [], harness := (true, "78367989f1779c6ad5062e28a7d61523e937c9c2f303a8adb35e256f7f7bb139"), looks := false }, kinds := [], alts := [], goes := true, laidByText := true, laidKinds := [.data, .funcsDeep, .pinned], laidTests := true, laidLooks := .later }
def FeePlansCardSaid : Prop := Claim7.holds Tryz.pinned (.plain (OpenSpec.ofChange feePlansSpec)) feePlansCard

/-- THE TIED CARD OF 'touchmarklaw08.FeeSums'. -/
def feeSumsCard : Claim7 := { stood := { row := feeSumsRow, standIns := [], harness := (true, "78367989f1779c6ad5062e28a7d61523e937c9c2f303a8adb35e256f7f7bb139"), looks := false }, kinds := [], alts := [], goes := true, laidByText := true, laidKinds := [.data, .funcsDeep, .pinned], laidTests := true, laidLooks := .later }
def FeeSumsCardSaid : Prop := Claim7.holds Tryz.pinned (.plain (OpenSpec.ofChange feeSumsSpec)) feeSumsCard

/-- THE TIED CARD OF 'touchmarklaw08.FeeTakes'. -/
def feeTakesCard : Claim7 := { stood := { row := feeTakesRow, standIns := [], harness := (true, "78367989f1779c6ad5062e28a7d61523e937c9c2f303a8adb35e256f7f7bb139"), looks := false }, kinds := [], alts := [], goes := true, laidByText := true, laidKinds := [.data, .funcsDeep, .pinned], laidTests := true, laidLooks := .later }
def FeeTakesCardSaid : Prop := Claim7.holds Tryz.pinned (.plain (OpenSpec.ofChange feeTakesSpec)) feeTakesCard

/-- THE TIED CARD OF 'touchmarklaw08.FeeDays'. -/
def feeDaysCard : Claim7 := { stood := { row := feeDaysRow, standIns := [], harness := (true, "78367989f1779c6ad5062e28a7d61523e937c9c2f303a8adb35e256f7f7bb139"), looks := false }, kinds := [], alts := [], goes := true, laidByText := true, laidKinds := [.data, .funcsDeep, .pinned], laidTests := true, laidLooks := .later }
def FeeDaysCardSaid : Prop := Claim7.holds Tryz.pinned (.plain (OpenSpec.ofChange feeDaysSpec)) feeDaysCard

/-- THE TIED CARD OF 'touchmarklaw08.FeeAnyOrder'. -/
def feeAnyOrderCard : Claim7 := { stood := { row := feeAnyOrderRow, standIns := [], harness := (true, "78367989f1779c6ad5062e28a7d61523e937c9c2f303a8adb35e256f7f7bb139"), looks := false }, kinds := [], alts := [], goes := true, laidByText := true, laidKinds := [.data, .funcsDeep, .pinned], laidTests := true, laidLooks := .later }
def FeeAnyOrderCardSaid : Prop := Claim7.holds Tryz.pinned (.plain (OpenSpec.ofChange feeAnyOrderSpec)) feeAnyOrderCard

/-- THE TIED CARD OF 'touchmarklaw08.FeePast'. -/
def feePastCard : Claim7 := { stood := { row := feePastRow, standIns := [], harness := (true, "78367989f1779c6ad5062e28a7d61523e937c9c2f303a8adb35e256f7f7bb139"), looks := false }, kinds := [], alts := [], goes := true, laidByText := true, laidKinds := [.data, .funcsDeep, .pinned], laidTests := true, laidLooks := .later }
def FeePastCardSaid : Prop := Claim7.holds Tryz.pinned (.plain (OpenSpec.ofChange feePastSpec)) feePastCard

/-- THE TIED CARD OF 'touchmarklaw08.FeeEarly'. -/
def feeEarlyCard : Claim7 := { stood := { row := feeEarlyRow, standIns := [], harness := (true, "78367989f1779c6ad5062e28a7d61523e937c9c2f303a8adb35e256f7f7bb139"), looks := false }, kinds := [], alts := [], goes := true, laidByText := true, laidKinds := [.data, .funcsDeep, .pinned], laidTests := true, laidLooks := .later }
def FeeEarlyCardSaid : Prop := Claim7.holds Tryz.pinned (.plain (OpenSpec.ofChange feeEarlySpec)) feeEarlyCard

/-- THE TIED CARD OF 'touchmarklaw08.FeeGraces'. -/
def feeGracesCard : Claim7 := { stood := { row := feeGracesRow, standIns := [], harness := (true, "78367989f1779c6ad5062e28a7d61523e937c9c2f303a8adb35e256f7f7bb139"), looks := false }, kinds := [], alts := [], goes := true, laidByText := true, laidKinds := [.data, .funcsDeep, .pinned], laidTests := true, laidLooks := .later }
def FeeGracesCardSaid : Prop := Claim7.holds Tryz.pinned (.plain (OpenSpec.ofChange feeGracesSpec)) feeGracesCard

/-- THE TIED CARD OF 'touchmarklaw08.FeeIdle'. -/
def feeIdleCard : Claim7 := { stood := { row := feeIdleRow, standIns := [], harness := (true, "78367989f1779c6ad5062e28a7d61523e937c9c2f303a8adb35e256f7f7bb139"), looks := false }, kinds := [], alts := [], goes := true, laidByText := true, laidKinds := [.data, .funcsDeep, .pinned], laidTests := true, laidLooks := .later }
def FeeIdleCardSaid : Prop := Claim7.holds Tryz.pinned (.plain (OpenSpec.ofChange feeIdleSpec)) feeIdleCard

/-- THE TIED CARD OF 'touchmarklaw08.FeePlanned'. -/
def feePlannedCard : Claim7 := { stood := { row := feePlannedRow, standIns := [], harness := (true, "78367989f1779c6ad5062e28a7d61523e937c9c2f303a8adb35e256f7f7bb139"), looks := false }, kinds := [], alts := [], goes := true, laidByText := true, laidKinds := [.data, .funcsDeep, .pinned], laidTests := true, laidLooks := .later }
def FeePlannedCardSaid : Prop := Claim7.holds Tryz.pinned (.plain (OpenSpec.ofChange feePlannedSpec)) feePlannedCard

/-- THE TIED CARD OF 'touchmarklaw08.FeeMost'. -/
def feeMostCard : Claim7 := { stood := { row := feeMostRow, standIns := [], harness := (true, "78367989f1779c6ad5062e28a7d61523e937c9c2f303a8adb35e256f7f7bb139"), looks := false }, kinds := [], alts := [], goes := true, laidByText := true, laidKinds := [.data, .funcsDeep, .pinned], laidTests := true, laidLooks := .later }
def FeeMostCardSaid : Prop := Claim7.holds Tryz.pinned (.plain (OpenSpec.ofChange feeMostSpec)) feeMostCard

/-- THE SECOND FORM's CARD OF 'touchmarklaw08.FeeCases'. -/
def feeCasesUptoCard : Claim7 := { stood := { row := feeCasesUptoRow, standIns := [], harness := (true, "78367989f1779c6ad5062e28a7d61523e937c9c2f303a8adb35e256f7f7bb139"), looks := false }, kinds := [], alts := [], goes := true, laidByText := true, laidKinds := [.data, .funcsDeep, .pinned], laidTests := true, laidLooks := .later }
def FeeCasesUptoCardSaid : Prop := Claim7.holds Tryz.pinned (.plain (OpenSpec.upto feeCasesSpec)) feeCasesUptoCard

/-- THE SECOND FORM's CARD OF 'touchmarklaw08.FeeBalances'. -/
def feeBalancesUptoCard : Claim7 := { stood := { row := feeBalancesUptoRow, standIns := [], harness := (true, "78367989f1779c6ad5062e28a7d61523e937c9c2f303a8adb35e256f7f7bb139"), looks := false }, kinds := [], alts := [], goes := true, laidByText := true, laidKinds := [.data, .funcsDeep, .pinned], laidTests := true, laidLooks := .later }
def FeeBalancesUptoCardSaid : Prop := Claim7.holds Tryz.pinned (.plain (OpenSpec.upto feeBalancesSpec)) feeBalancesUptoCard

/-- THE SECOND FORM's CARD OF 'touchmarklaw08.FeePlans'. -/
def feePlansUptoCard : Claim7 := { stood := { row := feePlansUptoRow, standIns := [], harness := (true, "78367989f1779c6ad5062e28a7d61523e937c9c2f303a8adb35e256f7f7bb139"), looks := false }, kinds := [], alts := [], goes := true, laidByText := true, laidKinds := [.data, .funcsDeep, .pinned], laidTests := true, laidLooks := .later }
def FeePlansUptoCardSaid : Prop := Claim7.holds Tryz.pinned (.plain (OpenSpec.upto feePlansSpec)) feePlansUptoCard

/-- THE SECOND FORM's CARD OF 'touchmarklaw08.FeeSums'. -/
def feeSumsUptoCard : Claim7 := { stood := { row := feeSumsUptoRow, standIns := [], harness := (true, "78367989f1779c6ad5062e28a7d61523e937c9c2f303a8adb35e256f7f7bb139"), looks := false }, kinds := [], alts := [], goes := true, laidByText := true, laidKinds := [.data, .funcsDeep, .pinned], laidTests := true, laidLooks := .later }
def FeeSumsUptoCardSaid : Prop := Claim7.holds Tryz.pinned (.plain (OpenSpec.upto feeSumsSpec)) feeSumsUptoCard

/-- THE SECOND FORM's CARD OF 'touchmarklaw08.FeeTakes'. -/
def feeTakesUptoCard : Claim7 := { stood := { row := feeTakesUptoRow, standIns := [], harness := (true, "78367989f1779c6ad5062e28a7d61523e937c9c2f303a8adb35e256f7f7bb139"), looks := false }, kinds := [], alts := [], goes := true, laidByText := true, laidKinds := [.data, .funcsDeep, .pinned], laidTests := true, laidLooks := .later }
def FeeTakesUptoCardSaid : Prop := Claim7.holds Tryz.pinned (.plain (OpenSpec.upto feeTakesSpec)) feeTakesUptoCard

/-- THE SECOND FORM's CARD OF 'touchmarklaw08.FeeDays'. -/
def feeDaysUptoCard : Claim7 := { stood := { row := feeDaysUptoRow, standIns := [], harness := (true, "78367989f1779c6ad5062e28a7d61523e937c9c2f303a8adb35e256f7f7bb139"), looks := false }, kinds := [], alts := [], goes := true, laidByText := true, laidKinds := [.data, .funcsDeep, .pinned], laidTests := true, laidLooks := .later }
def FeeDaysUptoCardSaid : Prop := Claim7.holds Tryz.pinned (.plain (OpenSpec.upto feeDaysSpec)) feeDaysUptoCard

/-- THE SECOND FORM's CARD OF 'touchmarklaw08.FeeAnyOrder'. -/
def feeAnyOrderUptoCard : Claim7 := { stood := { row := feeAnyOrderUptoRow, standIns := [], harness := (true, "78367989f1779c6ad5062e28a7d61523e937c9c2f303a8adb35e256f7f7bb139"), looks := false }, kinds := [], alts := [], goes := true, laidByText := true, laidKinds := [.data, .funcsDeep, .pinned], laidTests := true, laidLooks := .later }
def FeeAnyOrderUptoCardSaid : Prop := Claim7.holds Tryz.pinned (.plain (OpenSpec.upto feeAnyOrderSpec)) feeAnyOrderUptoCard

/-- THE SECOND FORM's CARD OF 'touchmarklaw08.FeePast'. -/
def feePastUptoCard : Claim7 := { stood := { row := feePastUptoRow, standIns := [], harness := (true, "78367989f1779c6ad5062e28a7d61523e937c9c2f303a8adb35e256f7f7bb139"), looks := false }, kinds := [], alts := [], goes := true, laidByText := true, laidKinds := [.data, .funcsDeep, .pinned], laidTests := true, laidLooks := .later }
def FeePastUptoCardSaid : Prop := Claim7.holds Tryz.pinned (.plain (OpenSpec.upto feePastSpec)) feePastUptoCard

/-- THE SECOND FORM's CARD OF 'touchmarklaw08.FeeEarly'. -/
def feeEarlyUptoCard : Claim7 := { stood := { row := feeEarlyUptoRow, standIns := [], harness := (true, "78367989f1779c6ad5062e28a7d61523e937c9c2f303a8adb35e256f7f7bb139"), looks := false }, kinds := [], alts := [], goes := true, laidByText := true, laidKinds := [.data, .funcsDeep, .pinned], laidTests := true, laidLooks := .later }
def FeeEarlyUptoCardSaid : Prop := Claim7.holds Tryz.pinned (.plain (OpenSpec.upto feeEarlySpec)) feeEarlyUptoCard

/-- THE SECOND FORM's CARD OF 'touchmarklaw08.FeeGraces'. -/
def feeGracesUptoCard : Claim7 := { stood := { row := feeGracesUptoRow, standIns := [], harness := (true, "78367989f1779c6ad5062e28a7d61523e937c9c2f303a8adb35e256f7f7bb139"), looks := false }, kinds := [], alts := [], goes := true, laidByText := true, laidKinds := [.data, .funcsDeep, .pinned], laidTests := true, laidLooks := .later }
def FeeGracesUptoCardSaid : Prop := Claim7.holds Tryz.pinned (.plain (OpenSpec.upto feeGracesSpec)) feeGracesUptoCard

/-- THE SECOND FORM's CARD OF 'touchmarklaw08.FeeIdle'. -/
def feeIdleUptoCard : Claim7 := { stood := { row := feeIdleUptoRow, standIns := [], harness := (true, "78367989f1779c6ad5062e28a7d61523e937c9c2f303a8adb35e256f7f7bb139"), looks := false }, kinds := [], alts := [], goes := true, laidByText := true, laidKinds := [.data, .funcsDeep, .pinned], laidTests := true, laidLooks := .later }
def FeeIdleUptoCardSaid : Prop := Claim7.holds Tryz.pinned (.plain (OpenSpec.upto feeIdleSpec)) feeIdleUptoCard

/-- THE SECOND FORM's CARD OF 'touchmarklaw08.FeePlanned'. -/
def feePlannedUptoCard : Claim7 := { stood := { row := feePlannedUptoRow, standIns := [], harness := (true, "78367989f1779c6ad5062e28a7d61523e937c9c2f303a8adb35e256f7f7bb139"), looks := false }, kinds := [], alts := [], goes := true, laidByText := true, laidKinds := [.data, .funcsDeep, .pinned], laidTests := true, laidLooks := .later }
def FeePlannedUptoCardSaid : Prop := Claim7.holds Tryz.pinned (.plain (OpenSpec.upto feePlannedSpec)) feePlannedUptoCard

/-- THE SECOND FORM's CARD OF 'touchmarklaw08.FeeMost'. -/
def feeMostUptoCard : Claim7 := { stood := { row := feeMostUptoRow, standIns := [], harness := (true, "78367989f1779c6ad5062e28a7d61523e937c9c2f303a8adb35e256f7f7bb139"), looks := false }, kinds := [], alts := [], goes := true, laidByText := true, laidKinds := [.data, .funcsDeep, .pinned], laidTests := true, laidLooks := .later }
def FeeMostUptoCardSaid : Prop := Claim7.holds Tryz.pinned (.plain (OpenSpec.upto feeMostSpec)) feeMostUptoCard
end Rows
end Go.Proofs.YtnkejaohnhpbpaaGreatDoor

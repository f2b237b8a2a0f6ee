/-
  DERIVED. GIVEN WITH THE SEED: THE CARDS: each row of YtccjdkghgbbliaaGreatDoorRows.lean that lists a variable, with what it lists TIED to the program's text (the seventh form; the later family's looks); each row that meets fmt, with fmt's text TOLD by the authors' own Lean function (tested against real Go, not proved from fmt's source: count such statements apart). THE CARD IS WHAT COUNTS. Prove the row's statement (the work); the ties are given (YtccjdkghgbbliaaGreatDoorTie.lean); close each card by the builder's one call (the guide's Derived/Test/ToyasCard.lean, 'card_holds'). Laid BY PROGRAM, IN A SANDBOX (cutbox-door.mjs). By AI agents, Wed Nov 11 2026. No macro, syntax, notation, axiom, sorry.
-/
import Derived.Test.YtccjdkghgbbliaaGreatDoorRows
import GoSem.ClaimSeven
namespace Go.Proofs.YtccjdkghgbbliaaGreatDoor
namespace Rows

/-- THE TIED CARD OF 'touchmarklaw08.FeeTerms'. -/
def feeTermsCard : Claim7 := { stood := { row := feeTermsRow, standIns := [], harness := (true, "2b3833b37c59463e22f25a6b7d36a15fd743a6e422ab7f52625749c65d5d1d7e"), looks := false }, kinds := [], alts := [], goes := true, laidByText := true, laidKinds := [.data, .data, .funcsDeep, .pinned], laidTests := true, laidLooks := .later }
def FeeTermsCardSaid : Prop := Claim7.holds Tryz.pinned (.plain (OpenSpec.ofChange feeTermsSpec)) feeTermsCard

/-- THE TIED CARD OF 'touchmarklaw08.FeeDues'. -/
def feeDuesCard : Claim7 := { stood := { row := feeDuesRow, standIns := [], harness := (true, "2b3833b37c59463e22f25a6b7d36a15fd743a6e422ab7f52625749c65d5d1d7e"), looks := false }, kinds := [], alts := [], goes := true, laidByText := true, laidKinds := [.data, .data, .funcsDeep, .pinned], laidTests := true, laidLooks := .later }
def FeeDuesCardSaid : Prop := Claim7.holds Tryz.pinned (.plain (OpenSpec.ofChange feeDuesSpec)) feeDuesCard

/-- THE TIED CARD OF 'touchmarklaw08.FeeClasses'. -/
def feeClassesCard : Claim7 := { stood := { row := feeClassesRow, standIns := [], harness := (true, "2b3833b37c59463e22f25a6b7d36a15fd743a6e422ab7f52625749c65d5d1d7e"), looks := false }, kinds := [], alts := [], goes := true, laidByText := true, laidKinds := [.data, .funcsDeep, .pinned], laidTests := true, laidLooks := .later }
def FeeClassesCardSaid : Prop := Claim7.holds Tryz.pinned (.plain (OpenSpec.ofChange feeClassesSpec)) feeClassesCard

/-- THE TIED CARD OF 'touchmarklaw08.FeeUsed'. -/
def feeUsedCard : Claim7 := { stood := { row := feeUsedRow, standIns := [], harness := (true, "2b3833b37c59463e22f25a6b7d36a15fd743a6e422ab7f52625749c65d5d1d7e"), looks := false }, kinds := [], alts := [], goes := true, laidByText := true, laidKinds := [.data, .funcsDeep, .funcs, .pinned], laidTests := true, laidLooks := .later }
def FeeUsedCardSaid : Prop := Claim7.holds Tryz.pinned (.plain (OpenSpec.ofChange feeUsedSpec)) feeUsedCard

/-- THE TIED CARD OF 'touchmarklaw08.FeeOpposed'. -/
def feeOpposedCard : Claim7 := { stood := { row := feeOpposedRow, standIns := [], harness := (true, "2b3833b37c59463e22f25a6b7d36a15fd743a6e422ab7f52625749c65d5d1d7e"), looks := false }, kinds := [], alts := [], goes := true, laidByText := true, laidKinds := [.data, .funcsDeep, .funcs, .pinned], laidTests := true, laidLooks := .later }
def FeeOpposedCardSaid : Prop := Claim7.holds Tryz.pinned (.plain (OpenSpec.ofChange feeOpposedSpec)) feeOpposedCard

/-- THE SECOND FORM's CARD OF 'touchmarklaw08.FeeTerms'. -/
def feeTermsUptoCard : Claim7 := { stood := { row := feeTermsUptoRow, standIns := [], harness := (true, "2b3833b37c59463e22f25a6b7d36a15fd743a6e422ab7f52625749c65d5d1d7e"), looks := false }, kinds := [], alts := [], goes := true, laidByText := true, laidKinds := [.data, .data, .funcsDeep, .pinned], laidTests := true, laidLooks := .later }
def FeeTermsUptoCardSaid : Prop := Claim7.holds Tryz.pinned (.plain (OpenSpec.upto feeTermsSpec)) feeTermsUptoCard

/-- THE SECOND FORM's CARD OF 'touchmarklaw08.FeeClasses'. -/
def feeClassesUptoCard : Claim7 := { stood := { row := feeClassesUptoRow, standIns := [], harness := (true, "2b3833b37c59463e22f25a6b7d36a15fd743a6e422ab7f52625749c65d5d1d7e"), looks := false }, kinds := [], alts := [], goes := true, laidByText := true, laidKinds := [.data, .funcsDeep, .pinned], laidTests := true, laidLooks := .later }
def FeeClassesUptoCardSaid : Prop := Claim7.holds Tryz.pinned (.plain (OpenSpec.upto feeClassesSpec)) feeClassesUptoCard

/-- THE SECOND FORM's CARD OF 'touchmarklaw08.FeeUsed'. -/
def feeUsedUptoCard : Claim7 := { stood := { row := feeUsedUptoRow, standIns := [], harness := (true, "2b3833b37c59463e22f25a6b7d36a15fd743a6e422ab7f52625749c65d5d1d7e"), looks := false }, kinds := [], alts := [], goes := true, laidByText := true, laidKinds := [.data, .funcsDeep, .funcs, .pinned], laidTests := true, laidLooks := .later }
def FeeUsedUptoCardSaid : Prop := Claim7.holds Tryz.pinned (.plain (OpenSpec.upto feeUsedSpec)) feeUsedUptoCard

/-- THE SECOND FORM's CARD OF 'touchmarklaw08.FeeOpposed'. -/
def feeOpposedUptoCard : Claim7 := { stood := { row := feeOpposedUptoRow, standIns := [], harness := (true, "2b3833b37c59463e22f25a6b7d36a15fd743a6e422ab7f52625749c65d5d1d7e"), looks := false }, kinds := [], alts := [], goes := true, laidByText := true, laidKinds := [.data, .funcsDeep, .funcs, .pinned], laidTests := true, laidLooks := .later }
def FeeOpposedUptoCardSaid : Prop := Claim7.holds Tryz.pinned (.plain (OpenSpec.upto feeOpposedSpec)) feeOpposedUptoCard
end Rows
end Go.Proofs.YtccjdkghgbbliaaGreatDoor

/-
  NARROWER THAN 'FOR EVERY INPUT', by the rows' own cells (each row's printed sentence says how): FeeCases: laid · FeeBalances: laid · FeePlans: laid · FeeSums: laid · FeeTakes: laid · FeeDays: laid · FeeAnyOrder: laid · FeePast: laid · FeeEarly: laid · FeeGraces: laid · FeeIdle: laid · FeePlanned: laid · FeeMost: laid.
  DERIVED. THE GIVEN ROWS OF THIS SEAT. 13 by the template 'for every input the law returns true; each argument reads behind the call as it read before'; 0 by the template 'total and deterministic' (their statements: YtnkejaohnhpbpaaGreatDoorTotals.lean).
  GIVEN WITH THE SEED: the statements are not yours to turn. If you find one false, say at which input.
  Laid BY PROGRAM, IN A SANDBOX (cutbox-rows.mjs): the forced cells as the released guide's own fill.sh prints them over the translation c4684169d6ee7e36… (all of the seat's roots in one cut). By AI agents, Wed Nov 11 2026. No macro, syntax, notation, axiom, sorry.
-/
import Derived.Test.YtnkejaohnhpbpaaGreatDoorChecked
import GoSem.PinnedTables
import GoSem.Claim
import GoSem.ClaimJoined
import GoSem.ClaimMapViews
import Derived.JoinedTies
import Derived.KernelRfl
namespace Go.Proofs.YtnkejaohnhpbpaaGreatDoor
/- THE CELL 'sum', in the pinned program and in every row, IS THE sha256 OF THE DUMP (.gsa) THAT YtnkejaohnhpbpaaGreatDoorProg.lean LOADS. Nothing in Lean hashes anything: it is a label: what it is worth is what the hold of that sum in a sandbox is worth. -/
noncomputable def Tryz.pinned : Pinned := { name := "ytnkejaohnhpbpaagreatdoor", sum := "c4684169d6ee7e365a970baee01da60ebc0d303e84577a8da2a497698a36a538", checked := Tryz.checked }
namespace Rows
def none {H : Type} : Left H := { results := [], args := [] }

/- WHAT THE LISTED PACKAGE-LEVEL VARIABLES READ AS WHEN THE CALL BEGINS. Each datum BY PROGRAM (the guide's laid-datum.mjs) off the statement by which the dump's own 'gosem.cut.vars' lays the variable. In a bare row this is a premise. The card (YtnkejaohnhpbpaaGreatDoorCards.lean) ties it to the program's text. -/
def laid_unicode_utf8_acceptRanges {H : Type} : DataW H := .agg [.agg [.lit (.int .u8 128), .lit (.int .u8 191)], .agg [.lit (.int .u8 160), .lit (.int .u8 191)], .agg [.lit (.int .u8 128), .lit (.int .u8 159)], .agg [.lit (.int .u8 144), .lit (.int .u8 191)], .agg [.lit (.int .u8 128), .lit (.int .u8 143)], .agg [.lit (.int .u8 0), .lit (.int .u8 0)], .agg [.lit (.int .u8 0), .lit (.int .u8 0)], .agg [.lit (.int .u8 0), .lit (.int .u8 0)], .agg [.lit (.int .u8 0), .lit (.int .u8 0)], .agg [.lit (.int .u8 0), .lit (.int .u8 0)], .agg [.lit (.int .u8 0), .lit (.int .u8 0)], .agg [.lit (.int .u8 0), .lit (.int .u8 0)], .agg [.lit (.int .u8 0), .lit (.int .u8 0)], .agg [.lit (.int .u8 0), .lit (.int .u8 0)], .agg [.lit (.int .u8 0), .lit (.int .u8 0)], .agg [.lit (.int .u8 0), .lit (.int .u8 0)]]
def laid_touchmark_fees_kinds {H : Type} : DataW H := .iface "func table" (.agg [.agg [.lit (.string [105, 110]), .iface "func" (.lit (.string [40, 42, 116, 111, 117, 99, 104, 109, 97, 114, 107, 47, 102, 101, 101, 115, 46, 116, 105, 108, 108, 41, 46, 105, 110])), .lit (.bool false)], .agg [.lit (.string [102, 117, 110, 100]), .iface "func" (.lit (.string [40, 42, 116, 111, 117, 99, 104, 109, 97, 114, 107, 47, 102, 101, 101, 115, 46, 116, 105, 108, 108, 41, 46, 102, 117, 110, 100])), .lit (.bool false)], .agg [.lit (.string [109, 111, 118, 101]), .iface "func" (.lit (.string [40, 42, 116, 111, 117, 99, 104, 109, 97, 114, 107, 47, 102, 101, 101, 115, 46, 116, 105, 108, 108, 41, 46, 109, 111, 118, 101])), .lit (.bool true)]])
/-- One of Go's own tables, pinned by name: the form's constant. -/
def laid_unicode_utf8_first : DataW Unit := Go.Pinned.utf8First

/-- 'touchmarklaw08.FeeCases': WHATEVER THE INPUT: true; the input reads as it did. -/
def feeCasesSpec : ChangeSpec := { name := "feeCases", fn := fun _ => fun
  | [d1, d2, d3] => { results := [.lit (.bool true)], args := [d1, d2, d3] }
  | _ => none }
def feeCasesRow : OpenClaim := { program := "ytnkejaohnhpbpaagreatdoor", sum := "c4684169d6ee7e365a970baee01da60ebc0d303e84577a8da2a497698a36a538", func := "touchmark/touchmarklaw08.FeeCases", spec := "feeCases", inPlace := ["internal/bytealg.IndexByteString", "internal/bytealg.IndexString", "(*sync.WaitGroup).Add", "internal/race.ReleaseMerge", "internal/race.Disable", "internal/race.Enable", "internal/synctest.IsInBubble", "internal/synctest.Associate[sync.WaitGroup]", "sync.fatal", "sync/atomic.OrUint64", "sync/atomic.AddUint64", "internal/race.Read", "sync/atomic.LoadUint64", "sync/atomic.StoreUint64", "internal/synctest.Disassociate[sync.WaitGroup]", "sync.runtime_Semrelease", "(*sync.WaitGroup).Done", "(*sync.WaitGroup).Wait", "internal/race.Acquire", "internal/synctest.IsAssociated[sync.WaitGroup]", "sync/atomic.CompareAndSwapUint64", "internal/race.Write", "sync.runtime_SemacquireWaitGroup"], unfollowed := true, recurses := true, named := ["unicode/utf8.first", "unicode/utf8.acceptRanges", "touchmark/fees.kinds", "internal/bytealg.MaxLen"], leaving := true, apart := false, laid := [("unicode/utf8.acceptRanges", laid_unicode_utf8_acceptRanges), ("touchmark/fees.kinds", laid_touchmark_fees_kinds), ("unicode/utf8.first", laid_unicode_utf8_first)] }
def FeeCasesSaid : Prop := feeCasesRow.holds Tryz.pinned (OpenSpec.ofChange feeCasesSpec)

/-- ITS FALSE NEIGHBOUR: 'it returns false'. Refute it at one input. -/
def feeCasesWrong : ChangeSpec := { name := "feeCases", fn := fun _ => fun
  | [d1, d2, d3] => { results := [.lit (.bool false)], args := [d1, d2, d3] }
  | _ => none }
def FeeCasesWrongFalsely : Prop := feeCasesRow.holds Tryz.pinned (OpenSpec.ofChange feeCasesWrong)

/-- 'touchmarklaw08.FeeBalances': WHATEVER THE INPUT: true; the input reads as it did. -/
def feeBalancesSpec : ChangeSpec := { name := "feeBalances", fn := fun _ => fun
  | [d1, d2, d3] => { results := [.lit (.bool true)], args := [d1, d2, d3] }
  | _ => none }
def feeBalancesRow : OpenClaim := { program := "ytnkejaohnhpbpaagreatdoor", sum := "c4684169d6ee7e365a970baee01da60ebc0d303e84577a8da2a497698a36a538", func := "touchmark/touchmarklaw08.FeeBalances", spec := "feeBalances", inPlace := ["internal/bytealg.IndexByteString", "internal/bytealg.IndexString", "(*sync.WaitGroup).Add", "internal/race.ReleaseMerge", "internal/race.Disable", "internal/race.Enable", "internal/synctest.IsInBubble", "internal/synctest.Associate[sync.WaitGroup]", "sync.fatal", "sync/atomic.OrUint64", "sync/atomic.AddUint64", "internal/race.Read", "sync/atomic.LoadUint64", "sync/atomic.StoreUint64", "internal/synctest.Disassociate[sync.WaitGroup]", "sync.runtime_Semrelease", "(*sync.WaitGroup).Done", "(*sync.WaitGroup).Wait", "internal/race.Acquire", "internal/synctest.IsAssociated[sync.WaitGroup]", "sync/atomic.CompareAndSwapUint64", "internal/race.Write", "sync.runtime_SemacquireWaitGroup"], unfollowed := true, recurses := true, named := ["unicode/utf8.first", "unicode/utf8.acceptRanges", "touchmark/fees.kinds", "internal/bytealg.MaxLen"], leaving := true, apart := false, laid := [("unicode/utf8.acceptRanges", laid_unicode_utf8_acceptRanges), ("touchmark/fees.kinds", laid_touchmark_fees_kinds), ("unicode/utf8.first", laid_unicode_utf8_first)] }
def FeeBalancesSaid : Prop := feeBalancesRow.holds Tryz.pinned (OpenSpec.ofChange feeBalancesSpec)

/-- ITS FALSE NEIGHBOUR: 'it returns false'. Refute it at one input. -/
def feeBalancesWrong : ChangeSpec := { name := "feeBalances", fn := fun _ => fun
  | [d1, d2, d3] => { results := [.lit (.bool false)], args := [d1, d2, d3] }
  | _ => none }
def FeeBalancesWrongFalsely : Prop := feeBalancesRow.holds Tryz.pinned (OpenSpec.ofChange feeBalancesWrong)

/-- 'touchmarklaw08.FeePlans': WHATEVER THE INPUT: true; the input reads as it did. -/
def feePlansSpec : ChangeSpec := { name := "feePlans", fn := fun _ => fun
  | [d1, d2, d3, d4] => { results := [.lit (.bool true)], args := [d1, d2, d3, d4] }
  | _ => none }
def feePlansRow : OpenClaim := { program := "ytnkejaohnhpbpaagreatdoor", sum := "c4684169d6ee7e365a970baee01da60ebc0d303e84577a8da2a497698a36a538", func := "touchmark/touchmarklaw08.FeePlans", spec := "feePlans", inPlace := ["internal/bytealg.IndexByteString", "internal/bytealg.IndexString", "(*sync.WaitGroup).Add", "internal/race.ReleaseMerge", "internal/race.Disable", "internal/race.Enable", "internal/synctest.IsInBubble", "internal/synctest.Associate[sync.WaitGroup]", "sync.fatal", "sync/atomic.OrUint64", "sync/atomic.AddUint64", "internal/race.Read", "sync/atomic.LoadUint64", "sync/atomic.StoreUint64", "internal/synctest.Disassociate[sync.WaitGroup]", "sync.runtime_Semrelease", "(*sync.WaitGroup).Done", "(*sync.WaitGroup).Wait", "internal/race.Acquire", "internal/synctest.IsAssociated[sync.WaitGroup]", "sync/atomic.CompareAndSwapUint64", "internal/race.Write", "sync.runtime_SemacquireWaitGroup"], unfollowed := true, recurses := true, named := ["unicode/utf8.first", "unicode/utf8.acceptRanges", "touchmark/fees.kinds", "internal/bytealg.MaxLen"], leaving := true, apart := false, laid := [("unicode/utf8.acceptRanges", laid_unicode_utf8_acceptRanges), ("touchmark/fees.kinds", laid_touchmark_fees_kinds), ("unicode/utf8.first", laid_unicode_utf8_first)] }
def FeePlansSaid : Prop := feePlansRow.holds Tryz.pinned (OpenSpec.ofChange feePlansSpec)

/-- ITS FALSE NEIGHBOUR: 'it returns false'. Refute it at one input. -/
def feePlansWrong : ChangeSpec := { name := "feePlans", fn := fun _ => fun
  | [d1, d2, d3, d4] => { results := [.lit (.bool false)], args := [d1, d2, d3, d4] }
  | _ => none }
def FeePlansWrongFalsely : Prop := feePlansRow.holds Tryz.pinned (OpenSpec.ofChange feePlansWrong)

/-- 'touchmarklaw08.FeeSums': WHATEVER THE INPUT: true; the input reads as it did. -/
def feeSumsSpec : ChangeSpec := { name := "feeSums", fn := fun _ => fun
  | [d1, d2] => { results := [.lit (.bool true)], args := [d1, d2] }
  | _ => none }
def feeSumsRow : OpenClaim := { program := "ytnkejaohnhpbpaagreatdoor", sum := "c4684169d6ee7e365a970baee01da60ebc0d303e84577a8da2a497698a36a538", func := "touchmark/touchmarklaw08.FeeSums", spec := "feeSums", inPlace := ["internal/bytealg.IndexByteString", "internal/bytealg.IndexString", "(*sync.WaitGroup).Add", "internal/race.ReleaseMerge", "internal/race.Disable", "internal/race.Enable", "internal/synctest.IsInBubble", "internal/synctest.Associate[sync.WaitGroup]", "sync.fatal", "sync/atomic.OrUint64", "sync/atomic.AddUint64", "internal/race.Read", "sync/atomic.LoadUint64", "sync/atomic.StoreUint64", "internal/synctest.Disassociate[sync.WaitGroup]", "sync.runtime_Semrelease", "(*sync.WaitGroup).Done", "(*sync.WaitGroup).Wait", "internal/race.Acquire", "internal/synctest.IsAssociated[sync.WaitGroup]", "sync/atomic.CompareAndSwapUint64", "internal/race.Write", "sync.runtime_SemacquireWaitGroup"], unfollowed := true, recurses := true, named := ["unicode/utf8.first", "unicode/utf8.acceptRanges", "touchmark/fees.kinds", "internal/bytealg.MaxLen"], leaving := true, apart := false, laid := [("unicode/utf8.acceptRanges", laid_unicode_utf8_acceptRanges), ("touchmark/fees.kinds", laid_touchmark_fees_kinds), ("unicode/utf8.first", laid_unicode_utf8_first)] }
def FeeSumsSaid : Prop := feeSumsRow.holds Tryz.pinned (OpenSpec.ofChange feeSumsSpec)

/-- ITS FALSE NEIGHBOUR: 'it returns false'. Refute it at one input. -/
def feeSumsWrong : ChangeSpec := { name := "feeSums", fn := fun _ => fun
  | [d1, d2] => { results := [.lit (.bool false)], args := [d1, d2] }
  | _ => none }
def FeeSumsWrongFalsely : Prop := feeSumsRow.holds Tryz.pinned (OpenSpec.ofChange feeSumsWrong)

/-- 'touchmarklaw08.FeeTakes': WHATEVER THE INPUT: true; the input reads as it did. -/
def feeTakesSpec : ChangeSpec := { name := "feeTakes", fn := fun _ => fun
  | [d1, d2] => { results := [.lit (.bool true)], args := [d1, d2] }
  | _ => none }
def feeTakesRow : OpenClaim := { program := "ytnkejaohnhpbpaagreatdoor", sum := "c4684169d6ee7e365a970baee01da60ebc0d303e84577a8da2a497698a36a538", func := "touchmark/touchmarklaw08.FeeTakes", spec := "feeTakes", inPlace := ["internal/bytealg.IndexByteString", "internal/bytealg.IndexString", "(*sync.WaitGroup).Add", "internal/race.ReleaseMerge", "internal/race.Disable", "internal/race.Enable", "internal/synctest.IsInBubble", "internal/synctest.Associate[sync.WaitGroup]", "sync.fatal", "sync/atomic.OrUint64", "sync/atomic.AddUint64", "internal/race.Read", "sync/atomic.LoadUint64", "sync/atomic.StoreUint64", "internal/synctest.Disassociate[sync.WaitGroup]", "sync.runtime_Semrelease", "(*sync.WaitGroup).Done", "(*sync.WaitGroup).Wait", "internal/race.Acquire", "internal/synctest.IsAssociated[sync.WaitGroup]", "sync/atomic.CompareAndSwapUint64", "internal/race.Write", "sync.runtime_SemacquireWaitGroup"], unfollowed := true, recurses := true, named := ["unicode/utf8.first", "unicode/utf8.acceptRanges", "touchmark/fees.kinds", "internal/bytealg.MaxLen"], leaving := true, apart := false, laid := [("unicode/utf8.acceptRanges", laid_unicode_utf8_acceptRanges), ("touchmark/fees.kinds", laid_touchmark_fees_kinds), ("unicode/utf8.first", laid_unicode_utf8_first)] }
def FeeTakesSaid : Prop := feeTakesRow.holds Tryz.pinned (OpenSpec.ofChange feeTakesSpec)

/-- ITS FALSE NEIGHBOUR: 'it returns false'. Refute it at one input. -/
def feeTakesWrong : ChangeSpec := { name := "feeTakes", fn := fun _ => fun
  | [d1, d2] => { results := [.lit (.bool false)], args := [d1, d2] }
  | _ => none }
def FeeTakesWrongFalsely : Prop := feeTakesRow.holds Tryz.pinned (OpenSpec.ofChange feeTakesWrong)

/-- 'touchmarklaw08.FeeDays': WHATEVER THE INPUT: true; the input reads as it did. -/
def feeDaysSpec : ChangeSpec := { name := "feeDays", fn := fun _ => fun
  | [d1, d2, d3] => { results := [.lit (.bool true)], args := [d1, d2, d3] }
  | _ => none }
def feeDaysRow : OpenClaim := { program := "ytnkejaohnhpbpaagreatdoor", sum := "c4684169d6ee7e365a970baee01da60ebc0d303e84577a8da2a497698a36a538", func := "touchmark/touchmarklaw08.FeeDays", spec := "feeDays", inPlace := ["internal/bytealg.IndexByteString", "internal/bytealg.IndexString", "(*sync.WaitGroup).Add", "internal/race.ReleaseMerge", "internal/race.Disable", "internal/race.Enable", "internal/synctest.IsInBubble", "internal/synctest.Associate[sync.WaitGroup]", "sync.fatal", "sync/atomic.OrUint64", "sync/atomic.AddUint64", "internal/race.Read", "sync/atomic.LoadUint64", "sync/atomic.StoreUint64", "internal/synctest.Disassociate[sync.WaitGroup]", "sync.runtime_Semrelease", "(*sync.WaitGroup).Done", "(*sync.WaitGroup).Wait", "internal/race.Acquire", "internal/synctest.IsAssociated[sync.WaitGroup]", "sync/atomic.CompareAndSwapUint64", "internal/race.Write", "sync.runtime_SemacquireWaitGroup"], unfollowed := true, recurses := true, named := ["unicode/utf8.first", "unicode/utf8.acceptRanges", "touchmark/fees.kinds", "internal/bytealg.MaxLen"], leaving := true, apart := false, laid := [("unicode/utf8.acceptRanges", laid_unicode_utf8_acceptRanges), ("touchmark/fees.kinds", laid_touchmark_fees_kinds), ("unicode/utf8.first", laid_unicode_utf8_first)] }
def FeeDaysSaid : Prop := feeDaysRow.holds Tryz.pinned (OpenSpec.ofChange feeDaysSpec)

/-- ITS FALSE NEIGHBOUR: 'it returns false'. Refute it at one input. -/
def feeDaysWrong : ChangeSpec := { name := "feeDays", fn := fun _ => fun
  | [d1, d2, d3] => { results := [.lit (.bool false)], args := [d1, d2, d3] }
  | _ => none }
def FeeDaysWrongFalsely : Prop := feeDaysRow.holds Tryz.pinned (OpenSpec.ofChange feeDaysWrong)

/-- 'touchmarklaw08.FeeAnyOrder': WHATEVER THE INPUT: true; the input reads as it did. -/
def feeAnyOrderSpec : ChangeSpec := { name := "feeAnyOrder", fn := fun _ => fun
  | [d1, d2, d3] => { results := [.lit (.bool true)], args := [d1, d2, d3] }
  | _ => none }
def feeAnyOrderRow : OpenClaim := { program := "ytnkejaohnhpbpaagreatdoor", sum := "c4684169d6ee7e365a970baee01da60ebc0d303e84577a8da2a497698a36a538", func := "touchmark/touchmarklaw08.FeeAnyOrder", spec := "feeAnyOrder", inPlace := ["internal/bytealg.IndexByteString", "internal/bytealg.IndexString", "(*sync.WaitGroup).Add", "internal/race.ReleaseMerge", "internal/race.Disable", "internal/race.Enable", "internal/synctest.IsInBubble", "internal/synctest.Associate[sync.WaitGroup]", "sync.fatal", "sync/atomic.OrUint64", "sync/atomic.AddUint64", "internal/race.Read", "sync/atomic.LoadUint64", "sync/atomic.StoreUint64", "internal/synctest.Disassociate[sync.WaitGroup]", "sync.runtime_Semrelease", "(*sync.WaitGroup).Done", "(*sync.WaitGroup).Wait", "internal/race.Acquire", "internal/synctest.IsAssociated[sync.WaitGroup]", "sync/atomic.CompareAndSwapUint64", "internal/race.Write", "sync.runtime_SemacquireWaitGroup"], unfollowed := true, recurses := true, named := ["unicode/utf8.first", "unicode/utf8.acceptRanges", "touchmark/fees.kinds", "internal/bytealg.MaxLen"], leaving := true, apart := false, laid := [("unicode/utf8.acceptRanges", laid_unicode_utf8_acceptRanges), ("touchmark/fees.kinds", laid_touchmark_fees_kinds), ("unicode/utf8.first", laid_unicode_utf8_first)] }
def FeeAnyOrderSaid : Prop := feeAnyOrderRow.holds Tryz.pinned (OpenSpec.ofChange feeAnyOrderSpec)

/-- ITS FALSE NEIGHBOUR: 'it returns false'. Refute it at one input. -/
def feeAnyOrderWrong : ChangeSpec := { name := "feeAnyOrder", fn := fun _ => fun
  | [d1, d2, d3] => { results := [.lit (.bool false)], args := [d1, d2, d3] }
  | _ => none }
def FeeAnyOrderWrongFalsely : Prop := feeAnyOrderRow.holds Tryz.pinned (OpenSpec.ofChange feeAnyOrderWrong)

/-- 'touchmarklaw08.FeePast': WHATEVER THE INPUT: true; the input reads as it did. -/
def feePastSpec : ChangeSpec := { name := "feePast", fn := fun _ => fun
  | [d1, d2, d3] => { results := [.lit (.bool true)], args := [d1, d2, d3] }
  | _ => none }
def feePastRow : OpenClaim := { program := "ytnkejaohnhpbpaagreatdoor", sum := "c4684169d6ee7e365a970baee01da60ebc0d303e84577a8da2a497698a36a538", func := "touchmark/touchmarklaw08.FeePast", spec := "feePast", inPlace := ["internal/bytealg.IndexByteString", "internal/bytealg.IndexString", "(*sync.WaitGroup).Add", "internal/race.ReleaseMerge", "internal/race.Disable", "internal/race.Enable", "internal/synctest.IsInBubble", "internal/synctest.Associate[sync.WaitGroup]", "sync.fatal", "sync/atomic.OrUint64", "sync/atomic.AddUint64", "internal/race.Read", "sync/atomic.LoadUint64", "sync/atomic.StoreUint64", "internal/synctest.Disassociate[sync.WaitGroup]", "sync.runtime_Semrelease", "(*sync.WaitGroup).Done", "(*sync.WaitGroup).Wait", "internal/race.Acquire", "internal/synctest.IsAssociated[sync.WaitGroup]", "sync/atomic.CompareAndSwapUint64", "internal/race.Write", "sync.runtime_SemacquireWaitGroup"], unfollowed := true, recurses := true, named := ["unicode/utf8.first", "unicode/utf8.acceptRanges", "touchmark/fees.kinds", "internal/bytealg.MaxLen"], leaving := true, apart := false, laid := [("unicode/utf8.acceptRanges", laid_unicode_utf8_acceptRanges), ("touchmark/fees.kinds", laid_touchmark_fees_kinds), ("unicode/utf8.first", laid_unicode_utf8_first)] }
def FeePastSaid : Prop := feePastRow.holds Tryz.pinned (OpenSpec.ofChange feePastSpec)

/-- ITS FALSE NEIGHBOUR: 'it returns false'. Refute it at one input. -/
def feePastWrong : ChangeSpec := { name := "feePast", fn := fun _ => fun
  | [d1, d2, d3] => { results := [.lit (.bool false)], args := [d1, d2, d3] }
  | _ => none }
def FeePastWrongFalsely : Prop := feePastRow.holds Tryz.pinned (OpenSpec.ofChange feePastWrong)

/-- 'touchmarklaw08.FeeEarly': WHATEVER THE INPUT: true; the input reads as it did. -/
def feeEarlySpec : ChangeSpec := { name := "feeEarly", fn := fun _ => fun
  | [d1, d2, d3, d4] => { results := [.lit (.bool true)], args := [d1, d2, d3, d4] }
  | _ => none }
def feeEarlyRow : OpenClaim := { program := "ytnkejaohnhpbpaagreatdoor", sum := "c4684169d6ee7e365a970baee01da60ebc0d303e84577a8da2a497698a36a538", func := "touchmark/touchmarklaw08.FeeEarly", spec := "feeEarly", inPlace := ["internal/bytealg.IndexByteString", "internal/bytealg.IndexString", "(*sync.WaitGroup).Add", "internal/race.ReleaseMerge", "internal/race.Disable", "internal/race.Enable", "internal/synctest.IsInBubble", "internal/synctest.Associate[sync.WaitGroup]", "sync.fatal", "sync/atomic.OrUint64", "sync/atomic.AddUint64", "internal/race.Read", "sync/atomic.LoadUint64", "sync/atomic.StoreUint64", "internal/synctest.Disassociate[sync.WaitGroup]", "sync.runtime_Semrelease", "(*sync.WaitGroup).Done", "(*sync.WaitGroup).Wait", "internal/race.Acquire", "internal/synctest.IsAssociated[sync.WaitGroup]", "sync/atomic.CompareAndSwapUint64", "internal/race.Write", "sync.runtime_SemacquireWaitGroup"], unfollowed := true, recurses := true, named := ["unicode/utf8.first", "unicode/utf8.acceptRanges", "touchmark/fees.kinds", "internal/bytealg.MaxLen"], leaving := true, apart := false, laid := [("unicode/utf8.acceptRanges", laid_unicode_utf8_acceptRanges), ("touchmark/fees.kinds", laid_touchmark_fees_kinds), ("unicode/utf8.first", laid_unicode_utf8_first)] }
def FeeEarlySaid : Prop := feeEarlyRow.holds Tryz.pinned (OpenSpec.ofChange feeEarlySpec)

/-- ITS FALSE NEIGHBOUR: 'it returns false'. Refute it at one input. -/
def feeEarlyWrong : ChangeSpec := { name := "feeEarly", fn := fun _ => fun
  | [d1, d2, d3, d4] => { results := [.lit (.bool false)], args := [d1, d2, d3, d4] }
  | _ => none }
def FeeEarlyWrongFalsely : Prop := feeEarlyRow.holds Tryz.pinned (OpenSpec.ofChange feeEarlyWrong)

/-- 'touchmarklaw08.FeeGraces': WHATEVER THE INPUT: true; the input reads as it did. -/
def feeGracesSpec : ChangeSpec := { name := "feeGraces", fn := fun _ => fun
  | [d1, d2, d3, d4] => { results := [.lit (.bool true)], args := [d1, d2, d3, d4] }
  | _ => none }
def feeGracesRow : OpenClaim := { program := "ytnkejaohnhpbpaagreatdoor", sum := "c4684169d6ee7e365a970baee01da60ebc0d303e84577a8da2a497698a36a538", func := "touchmark/touchmarklaw08.FeeGraces", spec := "feeGraces", inPlace := ["internal/bytealg.IndexByteString", "internal/bytealg.IndexString", "(*sync.WaitGroup).Add", "internal/race.ReleaseMerge", "internal/race.Disable", "internal/race.Enable", "internal/synctest.IsInBubble", "internal/synctest.Associate[sync.WaitGroup]", "sync.fatal", "sync/atomic.OrUint64", "sync/atomic.AddUint64", "internal/race.Read", "sync/atomic.LoadUint64", "sync/atomic.StoreUint64", "internal/synctest.Disassociate[sync.WaitGroup]", "sync.runtime_Semrelease", "(*sync.WaitGroup).Done", "(*sync.WaitGroup).Wait", "internal/race.Acquire", "internal/synctest.IsAssociated[sync.WaitGroup]", "sync/atomic.CompareAndSwapUint64", "internal/race.Write", "sync.runtime_SemacquireWaitGroup"], unfollowed := true, recurses := true, named := ["unicode/utf8.first", "unicode/utf8.acceptRanges", "touchmark/fees.kinds", "internal/bytealg.MaxLen"], leaving := true, apart := false, laid := [("unicode/utf8.acceptRanges", laid_unicode_utf8_acceptRanges), ("touchmark/fees.kinds", laid_touchmark_fees_kinds), ("unicode/utf8.first", laid_unicode_utf8_first)] }
def FeeGracesSaid : Prop := feeGracesRow.holds Tryz.pinned (OpenSpec.ofChange feeGracesSpec)

/-- ITS FALSE NEIGHBOUR: 'it returns false'. Refute it at one input. -/
def feeGracesWrong : ChangeSpec := { name := "feeGraces", fn := fun _ => fun
  | [d1, d2, d3, d4] => { results := [.lit (.bool false)], args := [d1, d2, d3, d4] }
  | _ => none }
def FeeGracesWrongFalsely : Prop := feeGracesRow.holds Tryz.pinned (OpenSpec.ofChange feeGracesWrong)

/-- 'touchmarklaw08.FeeIdle': WHATEVER THE INPUT: true; the input reads as it did. -/
def feeIdleSpec : ChangeSpec := { name := "feeIdle", fn := fun _ => fun
  | [d1, d2] => { results := [.lit (.bool true)], args := [d1, d2] }
  | _ => none }
def feeIdleRow : OpenClaim := { program := "ytnkejaohnhpbpaagreatdoor", sum := "c4684169d6ee7e365a970baee01da60ebc0d303e84577a8da2a497698a36a538", func := "touchmark/touchmarklaw08.FeeIdle", spec := "feeIdle", inPlace := ["internal/bytealg.IndexByteString", "internal/bytealg.IndexString", "(*sync.WaitGroup).Add", "internal/race.ReleaseMerge", "internal/race.Disable", "internal/race.Enable", "internal/synctest.IsInBubble", "internal/synctest.Associate[sync.WaitGroup]", "sync.fatal", "sync/atomic.OrUint64", "sync/atomic.AddUint64", "internal/race.Read", "sync/atomic.LoadUint64", "sync/atomic.StoreUint64", "internal/synctest.Disassociate[sync.WaitGroup]", "sync.runtime_Semrelease", "(*sync.WaitGroup).Done", "(*sync.WaitGroup).Wait", "internal/race.Acquire", "internal/synctest.IsAssociated[sync.WaitGroup]", "sync/atomic.CompareAndSwapUint64", "internal/race.Write", "sync.runtime_SemacquireWaitGroup"], unfollowed := true, recurses := true, named := ["unicode/utf8.first", "unicode/utf8.acceptRanges", "touchmark/fees.kinds", "internal/bytealg.MaxLen"], leaving := true, apart := false, laid := [("unicode/utf8.acceptRanges", laid_unicode_utf8_acceptRanges), ("touchmark/fees.kinds", laid_touchmark_fees_kinds), ("unicode/utf8.first", laid_unicode_utf8_first)] }
def FeeIdleSaid : Prop := feeIdleRow.holds Tryz.pinned (OpenSpec.ofChange feeIdleSpec)

/-- ITS FALSE NEIGHBOUR: 'it returns false'. Refute it at one input. -/
def feeIdleWrong : ChangeSpec := { name := "feeIdle", fn := fun _ => fun
  | [d1, d2] => { results := [.lit (.bool false)], args := [d1, d2] }
  | _ => none }
def FeeIdleWrongFalsely : Prop := feeIdleRow.holds Tryz.pinned (OpenSpec.ofChange feeIdleWrong)

/-- 'touchmarklaw08.FeePlanned': WHATEVER THE INPUT: true; the input reads as it did. -/
def feePlannedSpec : ChangeSpec := { name := "feePlanned", fn := fun _ => fun
  | [d1, d2] => { results := [.lit (.bool true)], args := [d1, d2] }
  | _ => none }
def feePlannedRow : OpenClaim := { program := "ytnkejaohnhpbpaagreatdoor", sum := "c4684169d6ee7e365a970baee01da60ebc0d303e84577a8da2a497698a36a538", func := "touchmark/touchmarklaw08.FeePlanned", spec := "feePlanned", inPlace := ["internal/bytealg.IndexByteString", "internal/bytealg.IndexString", "(*sync.WaitGroup).Add", "internal/race.ReleaseMerge", "internal/race.Disable", "internal/race.Enable", "internal/synctest.IsInBubble", "internal/synctest.Associate[sync.WaitGroup]", "sync.fatal", "sync/atomic.OrUint64", "sync/atomic.AddUint64", "internal/race.Read", "sync/atomic.LoadUint64", "sync/atomic.StoreUint64", "internal/synctest.Disassociate[sync.WaitGroup]", "sync.runtime_Semrelease", "(*sync.WaitGroup).Done", "(*sync.WaitGroup).Wait", "internal/race.Acquire", "internal/synctest.IsAssociated[sync.WaitGroup]", "sync/atomic.CompareAndSwapUint64", "internal/race.Write", "sync.runtime_SemacquireWaitGroup"], unfollowed := true, recurses := true, named := ["unicode/utf8.first", "unicode/utf8.acceptRanges", "touchmark/fees.kinds", "internal/bytealg.MaxLen"], leaving := true, apart := false, laid := [("unicode/utf8.acceptRanges", laid_unicode_utf8_acceptRanges), ("touchmark/fees.kinds", laid_touchmark_fees_kinds), ("unicode/utf8.first", laid_unicode_utf8_first)] }
def FeePlannedSaid : Prop := feePlannedRow.holds Tryz.pinned (OpenSpec.ofChange feePlannedSpec)

/-- ITS FALSE NEIGHBOUR: 'it returns false'. Refute it at one input. -/
def feePlannedWrong : ChangeSpec := { name := "feePlanned", fn := fun _ => fun
  | [d1, d2] => { results := [.lit (.bool false)], args := [d1, d2] }
  | _ => none }
def FeePlannedWrongFalsely : Prop := feePlannedRow.holds Tryz.pinned (OpenSpec.ofChange feePlannedWrong)

/-- 'touchmarklaw08.FeeMost': WHATEVER THE INPUT: true; the input reads as it did. -/
def feeMostSpec : ChangeSpec := { name := "feeMost", fn := fun _ => fun
  | [d1, d2, d3, d4] => { results := [.lit (.bool true)], args := [d1, d2, d3, d4] }
  | _ => none }
def feeMostRow : OpenClaim := { program := "ytnkejaohnhpbpaagreatdoor", sum := "c4684169d6ee7e365a970baee01da60ebc0d303e84577a8da2a497698a36a538", func := "touchmark/touchmarklaw08.FeeMost", spec := "feeMost", inPlace := ["internal/bytealg.IndexByteString", "internal/bytealg.IndexString", "(*sync.WaitGroup).Add", "internal/race.ReleaseMerge", "internal/race.Disable", "internal/race.Enable", "internal/synctest.IsInBubble", "internal/synctest.Associate[sync.WaitGroup]", "sync.fatal", "sync/atomic.OrUint64", "sync/atomic.AddUint64", "internal/race.Read", "sync/atomic.LoadUint64", "sync/atomic.StoreUint64", "internal/synctest.Disassociate[sync.WaitGroup]", "sync.runtime_Semrelease", "(*sync.WaitGroup).Done", "(*sync.WaitGroup).Wait", "internal/race.Acquire", "internal/synctest.IsAssociated[sync.WaitGroup]", "sync/atomic.CompareAndSwapUint64", "internal/race.Write", "sync.runtime_SemacquireWaitGroup"], unfollowed := true, recurses := true, named := ["unicode/utf8.first", "unicode/utf8.acceptRanges", "touchmark/fees.kinds", "internal/bytealg.MaxLen"], leaving := true, apart := false, laid := [("unicode/utf8.acceptRanges", laid_unicode_utf8_acceptRanges), ("touchmark/fees.kinds", laid_touchmark_fees_kinds), ("unicode/utf8.first", laid_unicode_utf8_first)] }
def FeeMostSaid : Prop := feeMostRow.holds Tryz.pinned (OpenSpec.ofChange feeMostSpec)

/-- ITS FALSE NEIGHBOUR: 'it returns false'. Refute it at one input. -/
def feeMostWrong : ChangeSpec := { name := "feeMost", fn := fun _ => fun
  | [d1, d2, d3, d4] => { results := [.lit (.bool false)], args := [d1, d2, d3, d4] }
  | _ => none }
def FeeMostWrongFalsely : Prop := feeMostRow.holds Tryz.pinned (OpenSpec.ofChange feeMostWrong)

/- THE SECOND FORM. 'bulk': how many values and letters a reading holds, each counted each time it is reached (what is shared counts as often as it is met; a slice's spare places count too). A statement '..UptoSaid' is the law's where the arguments, and the package variables that the reading takes, are together of bulk at most 1048576: NARROWER than '..Said'. Prove '..Said' where nothing that the law and all that it calls make is longer than what came in: it says more and counts as full. Else prove '..UptoSaid'. A law counts once. -/
mutual
def uptoBulk {H : Type} : DataW H → Nat
  | .lit (.string bytes) => bytes.length + 1
  | .lit _ => 1
  | .nil => 1
  | .ptr d => uptoBulk d + 1
  | .slice elems spare => uptoBulkAll elems + uptoBulkAll spare + 1
  | .agg parts => uptoBulkAll parts + 1
  | .iface _ d => uptoBulk d + 1
  | .map entries => uptoBulkEntries entries + 1
  | .held _ => 1
def uptoBulkAll {H : Type} : List (DataW H) → Nat
  | [] => 0
  | d :: r => uptoBulk d + uptoBulkAll r
def uptoBulkEntries {H : Type} : List (Lit × DataW H) → Nat
  | [] => 0
  | x :: r => uptoBulkEntry x + uptoBulkEntries r
def uptoBulkEntry {H : Type} : Lit × DataW H → Nat
  | (.string bytes, d) => bytes.length + uptoBulk d + 1
  | (_, d) => uptoBulk d + 1
 end
def uptoSmall : (H : Type) → List (DataW H) → Bool := fun _ ds => decide (uptoBulkAll ds ≤ 1048576)
def OpenSpec.upto (s : _root_.Go.ChangeSpec) : _root_.Go.OpenSpec := { _root_.Go.OpenSpec.ofChange s with cond := some uptoSmall }

/-- 'touchmarklaw08.FeeCases', WHERE WHAT IT READS IS OF BULK AT MOST 1048576: true; the input reads as it did. -/
def feeCasesUptoRow : OpenClaim := { program := "ytnkejaohnhpbpaagreatdoor", sum := "c4684169d6ee7e365a970baee01da60ebc0d303e84577a8da2a497698a36a538", func := "touchmark/touchmarklaw08.FeeCases", spec := "feeCases", inPlace := ["internal/bytealg.IndexByteString", "internal/bytealg.IndexString", "(*sync.WaitGroup).Add", "internal/race.ReleaseMerge", "internal/race.Disable", "internal/race.Enable", "internal/synctest.IsInBubble", "internal/synctest.Associate[sync.WaitGroup]", "sync.fatal", "sync/atomic.OrUint64", "sync/atomic.AddUint64", "internal/race.Read", "sync/atomic.LoadUint64", "sync/atomic.StoreUint64", "internal/synctest.Disassociate[sync.WaitGroup]", "sync.runtime_Semrelease", "(*sync.WaitGroup).Done", "(*sync.WaitGroup).Wait", "internal/race.Acquire", "internal/synctest.IsAssociated[sync.WaitGroup]", "sync/atomic.CompareAndSwapUint64", "internal/race.Write", "sync.runtime_SemacquireWaitGroup"], unfollowed := true, recurses := true, named := ["unicode/utf8.first", "unicode/utf8.acceptRanges", "touchmark/fees.kinds", "internal/bytealg.MaxLen"], leaving := true, apart := false, laid := [("unicode/utf8.acceptRanges", laid_unicode_utf8_acceptRanges), ("touchmark/fees.kinds", laid_touchmark_fees_kinds), ("unicode/utf8.first", laid_unicode_utf8_first)], narrowed := true }
def FeeCasesUptoSaid : Prop := feeCasesUptoRow.holds Tryz.pinned (OpenSpec.upto feeCasesSpec)

/-- 'touchmarklaw08.FeeBalances', WHERE WHAT IT READS IS OF BULK AT MOST 1048576: true; the input reads as it did. -/
def feeBalancesUptoRow : OpenClaim := { program := "ytnkejaohnhpbpaagreatdoor", sum := "c4684169d6ee7e365a970baee01da60ebc0d303e84577a8da2a497698a36a538", func := "touchmark/touchmarklaw08.FeeBalances", spec := "feeBalances", inPlace := ["internal/bytealg.IndexByteString", "internal/bytealg.IndexString", "(*sync.WaitGroup).Add", "internal/race.ReleaseMerge", "internal/race.Disable", "internal/race.Enable", "internal/synctest.IsInBubble", "internal/synctest.Associate[sync.WaitGroup]", "sync.fatal", "sync/atomic.OrUint64", "sync/atomic.AddUint64", "internal/race.Read", "sync/atomic.LoadUint64", "sync/atomic.StoreUint64", "internal/synctest.Disassociate[sync.WaitGroup]", "sync.runtime_Semrelease", "(*sync.WaitGroup).Done", "(*sync.WaitGroup).Wait", "internal/race.Acquire", "internal/synctest.IsAssociated[sync.WaitGroup]", "sync/atomic.CompareAndSwapUint64", "internal/race.Write", "sync.runtime_SemacquireWaitGroup"], unfollowed := true, recurses := true, named := ["unicode/utf8.first", "unicode/utf8.acceptRanges", "touchmark/fees.kinds", "internal/bytealg.MaxLen"], leaving := true, apart := false, laid := [("unicode/utf8.acceptRanges", laid_unicode_utf8_acceptRanges), ("touchmark/fees.kinds", laid_touchmark_fees_kinds), ("unicode/utf8.first", laid_unicode_utf8_first)], narrowed := true }
def FeeBalancesUptoSaid : Prop := feeBalancesUptoRow.holds Tryz.pinned (OpenSpec.upto feeBalancesSpec)

/-- 'touchmarklaw08.FeePlans', WHERE WHAT IT READS IS OF BULK AT MOST 1048576: true; the input reads as it did. -/
def feePlansUptoRow : OpenClaim := { program := "ytnkejaohnhpbpaagreatdoor", sum := "c4684169d6ee7e365a970baee01da60ebc0d303e84577a8da2a497698a36a538", func := "touchmark/touchmarklaw08.FeePlans", spec := "feePlans", inPlace := ["internal/bytealg.IndexByteString", "internal/bytealg.IndexString", "(*sync.WaitGroup).Add", "internal/race.ReleaseMerge", "internal/race.Disable", "internal/race.Enable", "internal/synctest.IsInBubble", "internal/synctest.Associate[sync.WaitGroup]", "sync.fatal", "sync/atomic.OrUint64", "sync/atomic.AddUint64", "internal/race.Read", "sync/atomic.LoadUint64", "sync/atomic.StoreUint64", "internal/synctest.Disassociate[sync.WaitGroup]", "sync.runtime_Semrelease", "(*sync.WaitGroup).Done", "(*sync.WaitGroup).Wait", "internal/race.Acquire", "internal/synctest.IsAssociated[sync.WaitGroup]", "sync/atomic.CompareAndSwapUint64", "internal/race.Write", "sync.runtime_SemacquireWaitGroup"], unfollowed := true, recurses := true, named := ["unicode/utf8.first", "unicode/utf8.acceptRanges", "touchmark/fees.kinds", "internal/bytealg.MaxLen"], leaving := true, apart := false, laid := [("unicode/utf8.acceptRanges", laid_unicode_utf8_acceptRanges), ("touchmark/fees.kinds", laid_touchmark_fees_kinds), ("unicode/utf8.first", laid_unicode_utf8_first)], narrowed := true }
def FeePlansUptoSaid : Prop := feePlansUptoRow.holds Tryz.pinned (OpenSpec.upto feePlansSpec)

/-- 'touchmarklaw08.FeeSums', WHERE WHAT IT READS IS OF BULK AT MOST 1048576: true; the input reads as it did. -/
def feeSumsUptoRow : OpenClaim := { program := "ytnkejaohnhpbpaagreatdoor", sum := "c4684169d6ee7e365a970baee01da60ebc0d303e84577a8da2a497698a36a538", func := "touchmark/touchmarklaw08.FeeSums", spec := "feeSums", inPlace := ["internal/bytealg.IndexByteString", "internal/bytealg.IndexString", "(*sync.WaitGroup).Add", "internal/race.ReleaseMerge", "internal/race.Disable", "internal/race.Enable", "internal/synctest.IsInBubble", "internal/synctest.Associate[sync.WaitGroup]", "sync.fatal", "sync/atomic.OrUint64", "sync/atomic.AddUint64", "internal/race.Read", "sync/atomic.LoadUint64", "sync/atomic.StoreUint64", "internal/synctest.Disassociate[sync.WaitGroup]", "sync.runtime_Semrelease", "(*sync.WaitGroup).Done", "(*sync.WaitGroup).Wait", "internal/race.Acquire", "internal/synctest.IsAssociated[sync.WaitGroup]", "sync/atomic.CompareAndSwapUint64", "internal/race.Write", "sync.runtime_SemacquireWaitGroup"], unfollowed := true, recurses := true, named := ["unicode/utf8.first", "unicode/utf8.acceptRanges", "touchmark/fees.kinds", "internal/bytealg.MaxLen"], leaving := true, apart := false, laid := [("unicode/utf8.acceptRanges", laid_unicode_utf8_acceptRanges), ("touchmark/fees.kinds", laid_touchmark_fees_kinds), ("unicode/utf8.first", laid_unicode_utf8_first)], narrowed := true }
def FeeSumsUptoSaid : Prop := feeSumsUptoRow.holds Tryz.pinned (OpenSpec.upto feeSumsSpec)

/-- 'touchmarklaw08.FeeTakes', WHERE WHAT IT READS IS OF BULK AT MOST 1048576: true; the input reads as it did. -/
def feeTakesUptoRow : OpenClaim := { program := "ytnkejaohnhpbpaagreatdoor", sum := "c4684169d6ee7e365a970baee01da60ebc0d303e84577a8da2a497698a36a538", func := "touchmark/touchmarklaw08.FeeTakes", spec := "feeTakes", inPlace := ["internal/bytealg.IndexByteString", "internal/bytealg.IndexString", "(*sync.WaitGroup).Add", "internal/race.ReleaseMerge", "internal/race.Disable", "internal/race.Enable", "internal/synctest.IsInBubble", "internal/synctest.Associate[sync.WaitGroup]", "sync.fatal", "sync/atomic.OrUint64", "sync/atomic.AddUint64", "internal/race.Read", "sync/atomic.LoadUint64", "sync/atomic.StoreUint64", "internal/synctest.Disassociate[sync.WaitGroup]", "sync.runtime_Semrelease", "(*sync.WaitGroup).Done", "(*sync.WaitGroup).Wait", "internal/race.Acquire", "internal/synctest.IsAssociated[sync.WaitGroup]", "sync/atomic.CompareAndSwapUint64", "internal/race.Write", "sync.runtime_SemacquireWaitGroup"], unfollowed := true, recurses := true, named := ["unicode/utf8.first", "unicode/utf8.acceptRanges", "touchmark/fees.kinds", "internal/bytealg.MaxLen"], leaving := true, apart := false, laid := [("unicode/utf8.acceptRanges", laid_unicode_utf8_acceptRanges), ("touchmark/fees.kinds", laid_touchmark_fees_kinds), ("unicode/utf8.first", laid_unicode_utf8_first)], narrowed := true }
def FeeTakesUptoSaid : Prop := feeTakesUptoRow.holds Tryz.pinned (OpenSpec.upto feeTakesSpec)

/-- 'touchmarklaw08.FeeDays', WHERE WHAT IT READS IS OF BULK AT MOST 1048576: true; the input reads as it did. -/
def feeDaysUptoRow : OpenClaim := { program := "ytnkejaohnhpbpaagreatdoor", sum := "c4684169d6ee7e365a970baee01da60ebc0d303e84577a8da2a497698a36a538", func := "touchmark/touchmarklaw08.FeeDays", spec := "feeDays", inPlace := ["internal/bytealg.IndexByteString", "internal/bytealg.IndexString", "(*sync.WaitGroup).Add", "internal/race.ReleaseMerge", "internal/race.Disable", "internal/race.Enable", "internal/synctest.IsInBubble", "internal/synctest.Associate[sync.WaitGroup]", "sync.fatal", "sync/atomic.OrUint64", "sync/atomic.AddUint64", "internal/race.Read", "sync/atomic.LoadUint64", "sync/atomic.StoreUint64", "internal/synctest.Disassociate[sync.WaitGroup]", "sync.runtime_Semrelease", "(*sync.WaitGroup).Done", "(*sync.WaitGroup).Wait", "internal/race.Acquire", "internal/synctest.IsAssociated[sync.WaitGroup]", "sync/atomic.CompareAndSwapUint64", "internal/race.Write", "sync.runtime_SemacquireWaitGroup"], unfollowed := true, recurses := true, named := ["unicode/utf8.first", "unicode/utf8.acceptRanges", "touchmark/fees.kinds", "internal/bytealg.MaxLen"], leaving := true, apart := false, laid := [("unicode/utf8.acceptRanges", laid_unicode_utf8_acceptRanges), ("touchmark/fees.kinds", laid_touchmark_fees_kinds), ("unicode/utf8.first", laid_unicode_utf8_first)], narrowed := true }
def FeeDaysUptoSaid : Prop := feeDaysUptoRow.holds Tryz.pinned (OpenSpec.upto feeDaysSpec)

/-- 'touchmarklaw08.FeeAnyOrder', WHERE WHAT IT READS IS OF BULK AT MOST 1048576: true; the input reads as it did. -/
def feeAnyOrderUptoRow : OpenClaim := { program := "ytnkejaohnhpbpaagreatdoor", sum := "c4684169d6ee7e365a970baee01da60ebc0d303e84577a8da2a497698a36a538", func := "touchmark/touchmarklaw08.FeeAnyOrder", spec := "feeAnyOrder", inPlace := ["internal/bytealg.IndexByteString", "internal/bytealg.IndexString", "(*sync.WaitGroup).Add", "internal/race.ReleaseMerge", "internal/race.Disable", "internal/race.Enable", "internal/synctest.IsInBubble", "internal/synctest.Associate[sync.WaitGroup]", "sync.fatal", "sync/atomic.OrUint64", "sync/atomic.AddUint64", "internal/race.Read", "sync/atomic.LoadUint64", "sync/atomic.StoreUint64", "internal/synctest.Disassociate[sync.WaitGroup]", "sync.runtime_Semrelease", "(*sync.WaitGroup).Done", "(*sync.WaitGroup).Wait", "internal/race.Acquire", "internal/synctest.IsAssociated[sync.WaitGroup]", "sync/atomic.CompareAndSwapUint64", "internal/race.Write", "sync.runtime_SemacquireWaitGroup"], unfollowed := true, recurses := true, named := ["unicode/utf8.first", "unicode/utf8.acceptRanges", "touchmark/fees.kinds", "internal/bytealg.MaxLen"], leaving := true, apart := false, laid := [("unicode/utf8.acceptRanges", laid_unicode_utf8_acceptRanges), ("touchmark/fees.kinds", laid_touchmark_fees_kinds), ("unicode/utf8.first", laid_unicode_utf8_first)], narrowed := true }
def FeeAnyOrderUptoSaid : Prop := feeAnyOrderUptoRow.holds Tryz.pinned (OpenSpec.upto feeAnyOrderSpec)

/-- 'touchmarklaw08.FeePast', WHERE WHAT IT READS IS OF BULK AT MOST 1048576: true; the input reads as it did. -/
def feePastUptoRow : OpenClaim := { program := "ytnkejaohnhpbpaagreatdoor", sum := "c4684169d6ee7e365a970baee01da60ebc0d303e84577a8da2a497698a36a538", func := "touchmark/touchmarklaw08.FeePast", spec := "feePast", inPlace := ["internal/bytealg.IndexByteString", "internal/bytealg.IndexString", "(*sync.WaitGroup).Add", "internal/race.ReleaseMerge", "internal/race.Disable", "internal/race.Enable", "internal/synctest.IsInBubble", "internal/synctest.Associate[sync.WaitGroup]", "sync.fatal", "sync/atomic.OrUint64", "sync/atomic.AddUint64", "internal/race.Read", "sync/atomic.LoadUint64", "sync/atomic.StoreUint64", "internal/synctest.Disassociate[sync.WaitGroup]", "sync.runtime_Semrelease", "(*sync.WaitGroup).Done", "(*sync.WaitGroup).Wait", "internal/race.Acquire", "internal/synctest.IsAssociated[sync.WaitGroup]", "sync/atomic.CompareAndSwapUint64", "internal/race.Write", "sync.runtime_SemacquireWaitGroup"], unfollowed := true, recurses := true, named := ["unicode/utf8.first", "unicode/utf8.acceptRanges", "touchmark/fees.kinds", "internal/bytealg.MaxLen"], leaving := true, apart := false, laid := [("unicode/utf8.acceptRanges", laid_unicode_utf8_acceptRanges), ("touchmark/fees.kinds", laid_touchmark_fees_kinds), ("unicode/utf8.first", laid_unicode_utf8_first)], narrowed := true }
def FeePastUptoSaid : Prop := feePastUptoRow.holds Tryz.pinned (OpenSpec.upto feePastSpec)

/-- 'touchmarklaw08.FeeEarly', WHERE WHAT IT READS IS OF BULK AT MOST 1048576: true; the input reads as it did. -/
def feeEarlyUptoRow : OpenClaim := { program := "ytnkejaohnhpbpaagreatdoor", sum := "c4684169d6ee7e365a970baee01da60ebc0d303e84577a8da2a497698a36a538", func := "touchmark/touchmarklaw08.FeeEarly", spec := "feeEarly", inPlace := ["internal/bytealg.IndexByteString", "internal/bytealg.IndexString", "(*sync.WaitGroup).Add", "internal/race.ReleaseMerge", "internal/race.Disable", "internal/race.Enable", "internal/synctest.IsInBubble", "internal/synctest.Associate[sync.WaitGroup]", "sync.fatal", "sync/atomic.OrUint64", "sync/atomic.AddUint64", "internal/race.Read", "sync/atomic.LoadUint64", "sync/atomic.StoreUint64", "internal/synctest.Disassociate[sync.WaitGroup]", "sync.runtime_Semrelease", "(*sync.WaitGroup).Done", "(*sync.WaitGroup).Wait", "internal/race.Acquire", "internal/synctest.IsAssociated[sync.WaitGroup]", "sync/atomic.CompareAndSwapUint64", "internal/race.Write", "sync.runtime_SemacquireWaitGroup"], unfollowed := true, recurses := true, named := ["unicode/utf8.first", "unicode/utf8.acceptRanges", "touchmark/fees.kinds", "internal/bytealg.MaxLen"], leaving := true, apart := false, laid := [("unicode/utf8.acceptRanges", laid_unicode_utf8_acceptRanges), ("touchmark/fees.kinds", laid_touchmark_fees_kinds), ("unicode/utf8.first", laid_unicode_utf8_first)], narrowed := true }
def FeeEarlyUptoSaid : Prop := feeEarlyUptoRow.holds Tryz.pinned (OpenSpec.upto feeEarlySpec)

/-- 'touchmarklaw08.FeeGraces', WHERE WHAT IT READS IS OF BULK AT MOST 1048576: true; the input reads as it did. -/
def feeGracesUptoRow : OpenClaim := { program := "ytnkejaohnhpbpaagreatdoor", sum := "c4684169d6ee7e365a970baee01da60ebc0d303e84577a8da2a497698a36a538", func := "touchmark/touchmarklaw08.FeeGraces", spec := "feeGraces", inPlace := ["internal/bytealg.IndexByteString", "internal/bytealg.IndexString", "(*sync.WaitGroup).Add", "internal/race.ReleaseMerge", "internal/race.Disable", "internal/race.Enable", "internal/synctest.IsInBubble", "internal/synctest.Associate[sync.WaitGroup]", "sync.fatal", "sync/atomic.OrUint64", "sync/atomic.AddUint64", "internal/race.Read", "sync/atomic.LoadUint64", "sync/atomic.StoreUint64", "internal/synctest.Disassociate[sync.WaitGroup]", "sync.runtime_Semrelease", "(*sync.WaitGroup).Done", "(*sync.WaitGroup).Wait", "internal/race.Acquire", "internal/synctest.IsAssociated[sync.WaitGroup]", "sync/atomic.CompareAndSwapUint64", "internal/race.Write", "sync.runtime_SemacquireWaitGroup"], unfollowed := true, recurses := true, named := ["unicode/utf8.first", "unicode/utf8.acceptRanges", "touchmark/fees.kinds", "internal/bytealg.MaxLen"], leaving := true, apart := false, laid := [("unicode/utf8.acceptRanges", laid_unicode_utf8_acceptRanges), ("touchmark/fees.kinds", laid_touchmark_fees_kinds), ("unicode/utf8.first", laid_unicode_utf8_first)], narrowed := true }
def FeeGracesUptoSaid : Prop := feeGracesUptoRow.holds Tryz.pinned (OpenSpec.upto feeGracesSpec)

/-- 'touchmarklaw08.FeeIdle', WHERE WHAT IT READS IS OF BULK AT MOST 1048576: true; the input reads as it did. -/
def feeIdleUptoRow : OpenClaim := { program := "ytnkejaohnhpbpaagreatdoor", sum := "c4684169d6ee7e365a970baee01da60ebc0d303e84577a8da2a497698a36a538", func := "touchmark/touchmarklaw08.FeeIdle", spec := "feeIdle", inPlace := ["internal/bytealg.IndexByteString", "internal/bytealg.IndexString", "(*sync.WaitGroup).Add", "internal/race.ReleaseMerge", "internal/race.Disable", "internal/race.Enable", "internal/synctest.IsInBubble", "internal/synctest.Associate[sync.WaitGroup]", "sync.fatal", "sync/atomic.OrUint64", "sync/atomic.AddUint64", "internal/race.Read", "sync/atomic.LoadUint64", "sync/atomic.StoreUint64", "internal/synctest.Disassociate[sync.WaitGroup]", "sync.runtime_Semrelease", "(*sync.WaitGroup).Done", "(*sync.WaitGroup).Wait", "internal/race.Acquire", "internal/synctest.IsAssociated[sync.WaitGroup]", "sync/atomic.CompareAndSwapUint64", "internal/race.Write", "sync.runtime_SemacquireWaitGroup"], unfollowed := true, recurses := true, named := ["unicode/utf8.first", "unicode/utf8.acceptRanges", "touchmark/fees.kinds", "internal/bytealg.MaxLen"], leaving := true, apart := false, laid := [("unicode/utf8.acceptRanges", laid_unicode_utf8_acceptRanges), ("touchmark/fees.kinds", laid_touchmark_fees_kinds), ("unicode/utf8.first", laid_unicode_utf8_first)], narrowed := true }
def FeeIdleUptoSaid : Prop := feeIdleUptoRow.holds Tryz.pinned (OpenSpec.upto feeIdleSpec)

/-- 'touchmarklaw08.FeePlanned', WHERE WHAT IT READS IS OF BULK AT MOST 1048576: true; the input reads as it did. -/
def feePlannedUptoRow : OpenClaim := { program := "ytnkejaohnhpbpaagreatdoor", sum := "c4684169d6ee7e365a970baee01da60ebc0d303e84577a8da2a497698a36a538", func := "touchmark/touchmarklaw08.FeePlanned", spec := "feePlanned", inPlace := ["internal/bytealg.IndexByteString", "internal/bytealg.IndexString", "(*sync.WaitGroup).Add", "internal/race.ReleaseMerge", "internal/race.Disable", "internal/race.Enable", "internal/synctest.IsInBubble", "internal/synctest.Associate[sync.WaitGroup]", "sync.fatal", "sync/atomic.OrUint64", "sync/atomic.AddUint64", "internal/race.Read", "sync/atomic.LoadUint64", "sync/atomic.StoreUint64", "internal/synctest.Disassociate[sync.WaitGroup]", "sync.runtime_Semrelease", "(*sync.WaitGroup).Done", "(*sync.WaitGroup).Wait", "internal/race.Acquire", "internal/synctest.IsAssociated[sync.WaitGroup]", "sync/atomic.CompareAndSwapUint64", "internal/race.Write", "sync.runtime_SemacquireWaitGroup"], unfollowed := true, recurses := true, named := ["unicode/utf8.first", "unicode/utf8.acceptRanges", "touchmark/fees.kinds", "internal/bytealg.MaxLen"], leaving := true, apart := false, laid := [("unicode/utf8.acceptRanges", laid_unicode_utf8_acceptRanges), ("touchmark/fees.kinds", laid_touchmark_fees_kinds), ("unicode/utf8.first", laid_unicode_utf8_first)], narrowed := true }
def FeePlannedUptoSaid : Prop := feePlannedUptoRow.holds Tryz.pinned (OpenSpec.upto feePlannedSpec)

/-- 'touchmarklaw08.FeeMost', WHERE WHAT IT READS IS OF BULK AT MOST 1048576: true; the input reads as it did. -/
def feeMostUptoRow : OpenClaim := { program := "ytnkejaohnhpbpaagreatdoor", sum := "c4684169d6ee7e365a970baee01da60ebc0d303e84577a8da2a497698a36a538", func := "touchmark/touchmarklaw08.FeeMost", spec := "feeMost", inPlace := ["internal/bytealg.IndexByteString", "internal/bytealg.IndexString", "(*sync.WaitGroup).Add", "internal/race.ReleaseMerge", "internal/race.Disable", "internal/race.Enable", "internal/synctest.IsInBubble", "internal/synctest.Associate[sync.WaitGroup]", "sync.fatal", "sync/atomic.OrUint64", "sync/atomic.AddUint64", "internal/race.Read", "sync/atomic.LoadUint64", "sync/atomic.StoreUint64", "internal/synctest.Disassociate[sync.WaitGroup]", "sync.runtime_Semrelease", "(*sync.WaitGroup).Done", "(*sync.WaitGroup).Wait", "internal/race.Acquire", "internal/synctest.IsAssociated[sync.WaitGroup]", "sync/atomic.CompareAndSwapUint64", "internal/race.Write", "sync.runtime_SemacquireWaitGroup"], unfollowed := true, recurses := true, named := ["unicode/utf8.first", "unicode/utf8.acceptRanges", "touchmark/fees.kinds", "internal/bytealg.MaxLen"], leaving := true, apart := false, laid := [("unicode/utf8.acceptRanges", laid_unicode_utf8_acceptRanges), ("touchmark/fees.kinds", laid_touchmark_fees_kinds), ("unicode/utf8.first", laid_unicode_utf8_first)], narrowed := true }
def FeeMostUptoSaid : Prop := feeMostUptoRow.holds Tryz.pinned (OpenSpec.upto feeMostSpec)

end Rows
end Go.Proofs.YtnkejaohnhpbpaaGreatDoor

/-
  NARROWER THAN 'FOR EVERY INPUT', by the rows' own cells (each row's printed sentence says how): FeeTerms: laid · FeeDues: calm, laid · FeeClasses: laid · FeeUsed: laid · FeeOpposed: laid.
  DERIVED. THE GIVEN ROWS OF THIS SEAT. 5 by the template 'for every input the law returns true; each argument reads behind the call as it read before'; 0 by the template 'total and deterministic' (their statements: YtccjdkghgbbliaaGreatDoorTotals.lean).
  GIVEN WITH THE SEED: the statements are not yours to turn. If you find one false, say at which input.
  Laid BY PROGRAM, IN A SANDBOX (cutbox-rows.mjs): the forced cells as the released guide's own fill.sh prints them over the translation 43cf30c04251f030… (all of the seat's roots in one cut). By AI agents, Wed Nov 11 2026. No macro, syntax, notation, axiom, sorry.
-/
import Derived.Test.YtccjdkghgbbliaaGreatDoorChecked
import GoSem.PinnedTables
import GoSem.Claim
import GoSem.ClaimJoined
import GoSem.ClaimMapViews
import Derived.JoinedTies
import Derived.KernelRfl
namespace Go.Proofs.YtccjdkghgbbliaaGreatDoor
/- THE CELL 'sum', in the pinned program and in every row, IS THE sha256 OF THE DUMP (.gsa) THAT YtccjdkghgbbliaaGreatDoorProg.lean LOADS. Nothing in Lean hashes anything: it is a label: what it is worth is what the hold of that sum in a sandbox is worth. -/
noncomputable def Tryz.pinned : Pinned := { name := "ytccjdkghgbbliaagreatdoor", sum := "43cf30c04251f030be4f66fd75cb9b3ac3fc553935b0bbad5bc093039cc5df48", checked := Tryz.checked }
namespace Rows
def none {H : Type} : Left H := { results := [], args := [] }

/- WHAT THE LISTED PACKAGE-LEVEL VARIABLES READ AS WHEN THE CALL BEGINS. Each datum BY PROGRAM (the guide's laid-datum.mjs) off the statement by which the dump's own 'gosem.cut.vars' lays the variable. In a bare row this is a premise. The card (YtccjdkghgbbliaaGreatDoorCards.lean) ties it to the program's text. -/
def laid_unicode_utf8_acceptRanges {H : Type} : DataW H := .agg [.agg [.lit (.int .u8 128), .lit (.int .u8 191)], .agg [.lit (.int .u8 160), .lit (.int .u8 191)], .agg [.lit (.int .u8 128), .lit (.int .u8 159)], .agg [.lit (.int .u8 144), .lit (.int .u8 191)], .agg [.lit (.int .u8 128), .lit (.int .u8 143)], .agg [.lit (.int .u8 0), .lit (.int .u8 0)], .agg [.lit (.int .u8 0), .lit (.int .u8 0)], .agg [.lit (.int .u8 0), .lit (.int .u8 0)], .agg [.lit (.int .u8 0), .lit (.int .u8 0)], .agg [.lit (.int .u8 0), .lit (.int .u8 0)], .agg [.lit (.int .u8 0), .lit (.int .u8 0)], .agg [.lit (.int .u8 0), .lit (.int .u8 0)], .agg [.lit (.int .u8 0), .lit (.int .u8 0)], .agg [.lit (.int .u8 0), .lit (.int .u8 0)], .agg [.lit (.int .u8 0), .lit (.int .u8 0)], .agg [.lit (.int .u8 0), .lit (.int .u8 0)]]
def laid_touchmark_dates_lengths {H : Type} : DataW H := .agg [.lit (.int .i64 31), .lit (.int .i64 28), .lit (.int .i64 31), .lit (.int .i64 30), .lit (.int .i64 31), .lit (.int .i64 30), .lit (.int .i64 31), .lit (.int .i64 31), .lit (.int .i64 30), .lit (.int .i64 31), .lit (.int .i64 30), .lit (.int .i64 31)]
def laid_touchmark_fees_kinds {H : Type} : DataW H := .iface "func table" (.agg [.agg [.lit (.string [105, 110]), .iface "func" (.lit (.string [40, 42, 116, 111, 117, 99, 104, 109, 97, 114, 107, 47, 102, 101, 101, 115, 46, 116, 105, 108, 108, 41, 46, 105, 110])), .lit (.bool false)], .agg [.lit (.string [102, 117, 110, 100]), .iface "func" (.lit (.string [40, 42, 116, 111, 117, 99, 104, 109, 97, 114, 107, 47, 102, 101, 101, 115, 46, 116, 105, 108, 108, 41, 46, 102, 117, 110, 100])), .lit (.bool false)], .agg [.lit (.string [109, 111, 118, 101]), .iface "func" (.lit (.string [40, 42, 116, 111, 117, 99, 104, 109, 97, 114, 107, 47, 102, 101, 101, 115, 46, 116, 105, 108, 108, 41, 46, 109, 111, 118, 101])), .lit (.bool true)]])
/-- One of Go's own tables, pinned by name: the form's constant. -/
def laid_unicode_utf8_first : DataW Unit := Go.Pinned.utf8First
def laid_touchmark_use_parts {H : Type} : DataW H := .iface "func table" (.agg [.iface "func" (.lit (.string [40, 116, 111, 117, 99, 104, 109, 97, 114, 107, 47, 117, 115, 101, 46, 102, 105, 108, 101, 41, 46, 110, 117, 109, 98, 101, 114, 115])), .iface "func" (.lit (.string [40, 116, 111, 117, 99, 104, 109, 97, 114, 107, 47, 117, 115, 101, 46, 102, 105, 108, 101, 41, 46, 101, 120, 99, 117, 115, 101, 115])), .iface "func" (.lit (.string [40, 116, 111, 117, 99, 104, 109, 97, 114, 107, 47, 117, 115, 101, 46, 102, 105, 108, 101, 41, 46, 112, 97, 112, 101, 114, 115])), .iface "func" (.lit (.string [40, 116, 111, 117, 99, 104, 109, 97, 114, 107, 47, 117, 115, 101, 46, 102, 105, 108, 101, 41, 46, 114, 101, 113, 117, 101, 115, 116, 115]))])
def laid_touchmark_rival_checks {H : Type} : DataW H := .iface "func table" (.agg [.iface "func" (.lit (.string [40, 116, 111, 117, 99, 104, 109, 97, 114, 107, 47, 114, 105, 118, 97, 108, 46, 98, 111, 111, 107, 41, 46, 114, 105, 103, 104, 116, 115])), .iface "func" (.lit (.string [40, 116, 111, 117, 99, 104, 109, 97, 114, 107, 47, 114, 105, 118, 97, 108, 46, 98, 111, 111, 107, 41, 46, 99, 97, 115, 101, 115])), .iface "func" (.lit (.string [40, 116, 111, 117, 99, 104, 109, 97, 114, 107, 47, 114, 105, 118, 97, 108, 46, 98, 111, 111, 107, 41, 46, 108, 111, 111, 112, 115]))])

/-- 'touchmarklaw08.FeeTerms': WHATEVER THE INPUT: true; the input reads as it did. -/
def feeTermsSpec : ChangeSpec := { name := "feeTerms", fn := fun _ => fun
  | [d1, d2, d3, d4, d5, d6, d7, d8] => { results := [.lit (.bool true)], args := [d1, d2, d3, d4, d5, d6, d7, d8] }
  | _ => none }
def feeTermsRow : OpenClaim := { program := "ytccjdkghgbbliaagreatdoor", sum := "43cf30c04251f030be4f66fd75cb9b3ac3fc553935b0bbad5bc093039cc5df48", func := "touchmark/touchmarklaw08.FeeTerms", spec := "feeTerms", inPlace := ["internal/bytealg.IndexByteString", "internal/bytealg.IndexString", "(*sync.WaitGroup).Add", "internal/race.ReleaseMerge", "internal/race.Disable", "internal/race.Enable", "internal/synctest.IsInBubble", "internal/synctest.Associate[sync.WaitGroup]", "sync.fatal", "sync/atomic.OrUint64", "sync/atomic.AddUint64", "internal/race.Read", "sync/atomic.LoadUint64", "sync/atomic.StoreUint64", "internal/synctest.Disassociate[sync.WaitGroup]", "sync.runtime_Semrelease", "(*sync.WaitGroup).Done", "(*sync.WaitGroup).Wait", "internal/race.Acquire", "internal/synctest.IsAssociated[sync.WaitGroup]", "sync/atomic.CompareAndSwapUint64", "internal/race.Write", "sync.runtime_SemacquireWaitGroup"], unfollowed := true, recurses := true, named := ["unicode/utf8.first", "unicode/utf8.acceptRanges", "touchmark/fees.kinds", "touchmark/dates.lengths", "internal/bytealg.MaxLen"], plainKeys := false, leaving := true, apart := false, laid := [("unicode/utf8.acceptRanges", laid_unicode_utf8_acceptRanges), ("touchmark/dates.lengths", laid_touchmark_dates_lengths), ("touchmark/fees.kinds", laid_touchmark_fees_kinds), ("unicode/utf8.first", laid_unicode_utf8_first)] }
def FeeTermsSaid : Prop := feeTermsRow.holds Tryz.pinned (OpenSpec.ofChange feeTermsSpec)

/-- ITS FALSE NEIGHBOUR: 'it returns false'. Refute it at one input. -/
def feeTermsWrong : ChangeSpec := { name := "feeTerms", fn := fun _ => fun
  | [d1, d2, d3, d4, d5, d6, d7, d8] => { results := [.lit (.bool false)], args := [d1, d2, d3, d4, d5, d6, d7, d8] }
  | _ => none }
def FeeTermsWrongFalsely : Prop := feeTermsRow.holds Tryz.pinned (OpenSpec.ofChange feeTermsWrong)

/-- 'touchmarklaw08.FeeDues': WHATEVER THE INPUT: true; the input reads as it did. -/
def feeDuesSpec : ChangeSpec := { name := "feeDues", fn := fun _ => fun
  | [d1, d2, d3, d4, d5, d6, d7, d8] => { results := [.lit (.bool true)], args := [d1, d2, d3, d4, d5, d6, d7, d8] }
  | _ => none }
def feeDuesRow : OpenClaim := { program := "ytccjdkghgbbliaagreatdoor", sum := "43cf30c04251f030be4f66fd75cb9b3ac3fc553935b0bbad5bc093039cc5df48", func := "touchmark/touchmarklaw08.FeeDues", spec := "feeDues", inPlace := ["internal/bytealg.IndexByteString", "internal/bytealg.IndexString", "(*sync.WaitGroup).Add", "internal/race.ReleaseMerge", "internal/race.Disable", "internal/race.Enable", "internal/synctest.IsInBubble", "internal/synctest.Associate[sync.WaitGroup]", "sync.fatal", "sync/atomic.OrUint64", "sync/atomic.AddUint64", "internal/race.Read", "sync/atomic.LoadUint64", "sync/atomic.StoreUint64", "internal/synctest.Disassociate[sync.WaitGroup]", "sync.runtime_Semrelease", "(*sync.WaitGroup).Done", "(*sync.WaitGroup).Wait", "internal/race.Acquire", "internal/synctest.IsAssociated[sync.WaitGroup]", "sync/atomic.CompareAndSwapUint64", "internal/race.Write", "sync.runtime_SemacquireWaitGroup", "(*internal/sync.Mutex).Lock", "sync/atomic.CompareAndSwapInt32", "(*internal/sync.Mutex).lockSlow", "internal/sync.runtime_canSpin", "internal/sync.runtime_doSpin", "internal/sync.throw", "internal/sync.runtime_nanotime", "internal/sync.runtime_SemacquireMutex", "sync/atomic.AddInt32", "(*internal/sync.Mutex).Unlock", "(*internal/sync.Mutex).unlockSlow", "internal/sync.fatal", "internal/sync.runtime_Semrelease"], unfollowed := true, recurses := true, named := ["unicode/utf8.first", "unicode/utf8.acceptRanges", "touchmark/fees.kinds", "touchmark/dates.lengths", "internal/bytealg.MaxLen"], plainKeys := false, leaving := true, apart := false, calm := true, outside := [.timePasses], laid := [("unicode/utf8.acceptRanges", laid_unicode_utf8_acceptRanges), ("touchmark/dates.lengths", laid_touchmark_dates_lengths), ("touchmark/fees.kinds", laid_touchmark_fees_kinds), ("unicode/utf8.first", laid_unicode_utf8_first)] }
def FeeDuesSaid : Prop := feeDuesRow.holds Tryz.pinned (OpenSpec.ofChange feeDuesSpec)

/-- ITS FALSE NEIGHBOUR: 'it returns false'. Refute it at one input. -/
def feeDuesWrong : ChangeSpec := { name := "feeDues", fn := fun _ => fun
  | [d1, d2, d3, d4, d5, d6, d7, d8] => { results := [.lit (.bool false)], args := [d1, d2, d3, d4, d5, d6, d7, d8] }
  | _ => none }
def FeeDuesWrongFalsely : Prop := feeDuesRow.holds Tryz.pinned (OpenSpec.ofChange feeDuesWrong)

/-- 'touchmarklaw08.FeeClasses': WHATEVER THE INPUT: true; the input reads as it did. -/
def feeClassesSpec : ChangeSpec := { name := "feeClasses", fn := fun _ => fun
  | [d1, d2, d3, d4, d5, d6, d7] => { results := [.lit (.bool true)], args := [d1, d2, d3, d4, d5, d6, d7] }
  | _ => none }
def feeClassesRow : OpenClaim := { program := "ytccjdkghgbbliaagreatdoor", sum := "43cf30c04251f030be4f66fd75cb9b3ac3fc553935b0bbad5bc093039cc5df48", func := "touchmark/touchmarklaw08.FeeClasses", spec := "feeClasses", inPlace := ["internal/bytealg.IndexByteString", "internal/bytealg.IndexString", "(*sync.WaitGroup).Add", "internal/race.ReleaseMerge", "internal/race.Disable", "internal/race.Enable", "internal/synctest.IsInBubble", "internal/synctest.Associate[sync.WaitGroup]", "sync.fatal", "sync/atomic.OrUint64", "sync/atomic.AddUint64", "internal/race.Read", "sync/atomic.LoadUint64", "sync/atomic.StoreUint64", "internal/synctest.Disassociate[sync.WaitGroup]", "sync.runtime_Semrelease", "(*sync.WaitGroup).Done", "(*sync.WaitGroup).Wait", "internal/race.Acquire", "internal/synctest.IsAssociated[sync.WaitGroup]", "sync/atomic.CompareAndSwapUint64", "internal/race.Write", "sync.runtime_SemacquireWaitGroup"], unfollowed := true, recurses := true, named := ["unicode/utf8.first", "unicode/utf8.acceptRanges", "touchmark/fees.kinds", "internal/bytealg.MaxLen"], plainKeys := false, leaving := true, apart := false, laid := [("unicode/utf8.acceptRanges", laid_unicode_utf8_acceptRanges), ("touchmark/fees.kinds", laid_touchmark_fees_kinds), ("unicode/utf8.first", laid_unicode_utf8_first)] }
def FeeClassesSaid : Prop := feeClassesRow.holds Tryz.pinned (OpenSpec.ofChange feeClassesSpec)

/-- ITS FALSE NEIGHBOUR: 'it returns false'. Refute it at one input. -/
def feeClassesWrong : ChangeSpec := { name := "feeClasses", fn := fun _ => fun
  | [d1, d2, d3, d4, d5, d6, d7] => { results := [.lit (.bool false)], args := [d1, d2, d3, d4, d5, d6, d7] }
  | _ => none }
def FeeClassesWrongFalsely : Prop := feeClassesRow.holds Tryz.pinned (OpenSpec.ofChange feeClassesWrong)

/-- 'touchmarklaw08.FeeUsed': WHATEVER THE INPUT: true; the input reads as it did. -/
def feeUsedSpec : ChangeSpec := { name := "feeUsed", fn := fun _ => fun
  | [d1, d2, d3, d4, d5, d6, d7, d8] => { results := [.lit (.bool true)], args := [d1, d2, d3, d4, d5, d6, d7, d8] }
  | _ => none }
def feeUsedRow : OpenClaim := { program := "ytccjdkghgbbliaagreatdoor", sum := "43cf30c04251f030be4f66fd75cb9b3ac3fc553935b0bbad5bc093039cc5df48", func := "touchmark/touchmarklaw08.FeeUsed", spec := "feeUsed", inPlace := ["internal/bytealg.IndexByteString", "internal/bytealg.IndexString", "(*sync.WaitGroup).Add", "internal/race.ReleaseMerge", "internal/race.Disable", "internal/race.Enable", "internal/synctest.IsInBubble", "internal/synctest.Associate[sync.WaitGroup]", "sync.fatal", "sync/atomic.OrUint64", "sync/atomic.AddUint64", "internal/race.Read", "sync/atomic.LoadUint64", "sync/atomic.StoreUint64", "internal/synctest.Disassociate[sync.WaitGroup]", "sync.runtime_Semrelease", "(*sync.WaitGroup).Done", "(*sync.WaitGroup).Wait", "internal/race.Acquire", "internal/synctest.IsAssociated[sync.WaitGroup]", "sync/atomic.CompareAndSwapUint64", "internal/race.Write", "sync.runtime_SemacquireWaitGroup"], unfollowed := true, recurses := true, named := ["unicode/utf8.first", "unicode/utf8.acceptRanges", "touchmark/fees.kinds", "touchmark/use.parts", "internal/bytealg.MaxLen"], plainKeys := false, leaving := true, apart := false, laid := [("unicode/utf8.acceptRanges", laid_unicode_utf8_acceptRanges), ("touchmark/fees.kinds", laid_touchmark_fees_kinds), ("touchmark/use.parts", laid_touchmark_use_parts), ("unicode/utf8.first", laid_unicode_utf8_first)] }
def FeeUsedSaid : Prop := feeUsedRow.holds Tryz.pinned (OpenSpec.ofChange feeUsedSpec)

/-- ITS FALSE NEIGHBOUR: 'it returns false'. Refute it at one input. -/
def feeUsedWrong : ChangeSpec := { name := "feeUsed", fn := fun _ => fun
  | [d1, d2, d3, d4, d5, d6, d7, d8] => { results := [.lit (.bool false)], args := [d1, d2, d3, d4, d5, d6, d7, d8] }
  | _ => none }
def FeeUsedWrongFalsely : Prop := feeUsedRow.holds Tryz.pinned (OpenSpec.ofChange feeUsedWrong)

/-- 'touchmarklaw08.FeeOpposed': WHATEVER THE INPUT: true; the input reads as it did. -/
def feeOpposedSpec : ChangeSpec := { name := "feeOpposed", fn := fun _ => fun
  | [d1, d2, d3, d4] => { results := [.lit (.bool true)], args := [d1, d2, d3, d4] }
  | _ => none }
def feeOpposedRow : OpenClaim := { program := "ytccjdkghgbbliaagreatdoor", sum := "43cf30c04251f030be4f66fd75cb9b3ac3fc553935b0bbad5bc093039cc5df48", func := "touchmark/touchmarklaw08.FeeOpposed", spec := "feeOpposed", inPlace := ["internal/bytealg.IndexByteString", "internal/bytealg.IndexString", "(*sync.WaitGroup).Add", "internal/race.ReleaseMerge", "internal/race.Disable", "internal/race.Enable", "internal/synctest.IsInBubble", "internal/synctest.Associate[sync.WaitGroup]", "sync.fatal", "sync/atomic.OrUint64", "sync/atomic.AddUint64", "internal/race.Read", "sync/atomic.LoadUint64", "sync/atomic.StoreUint64", "internal/synctest.Disassociate[sync.WaitGroup]", "sync.runtime_Semrelease", "(*sync.WaitGroup).Done", "(*sync.WaitGroup).Wait", "internal/race.Acquire", "internal/synctest.IsAssociated[sync.WaitGroup]", "sync/atomic.CompareAndSwapUint64", "internal/race.Write", "sync.runtime_SemacquireWaitGroup"], unfollowed := true, recurses := true, named := ["unicode/utf8.first", "unicode/utf8.acceptRanges", "touchmark/fees.kinds", "touchmark/rival.checks", "internal/bytealg.MaxLen"], plainKeys := false, leaving := true, apart := false, laid := [("unicode/utf8.acceptRanges", laid_unicode_utf8_acceptRanges), ("touchmark/fees.kinds", laid_touchmark_fees_kinds), ("touchmark/rival.checks", laid_touchmark_rival_checks), ("unicode/utf8.first", laid_unicode_utf8_first)] }
def FeeOpposedSaid : Prop := feeOpposedRow.holds Tryz.pinned (OpenSpec.ofChange feeOpposedSpec)

/-- ITS FALSE NEIGHBOUR: 'it returns false'. Refute it at one input. -/
def feeOpposedWrong : ChangeSpec := { name := "feeOpposed", fn := fun _ => fun
  | [d1, d2, d3, d4] => { results := [.lit (.bool false)], args := [d1, d2, d3, d4] }
  | _ => none }
def FeeOpposedWrongFalsely : Prop := feeOpposedRow.holds Tryz.pinned (OpenSpec.ofChange feeOpposedWrong)

/- THE SECOND FORM. 'bulk': how many values and letters a reading holds, each counted each time it is reached (what is shared counts as often as it is met; a slice's spare places count too). A statement '..UptoSaid' is the law's where the arguments, and the package variables that the reading takes, are together of bulk at most 1048576: NARROWER than '..Said'. Prove '..Said' where nothing that the law and all that it calls make is longer than what came in: it says more and counts as full. Else prove '..UptoSaid'. A law counts once. -/
mutual
def uptoBulk {H : Type} : DataW H → Nat
  | .lit (.string bytes) => bytes.length + 1
  | .lit _ => 1
  | .nil => 1
  | .ptr d => uptoBulk d + 1
  | .slice elems spare => uptoBulkAll elems + uptoBulkAll spare + 1
  | .agg parts => uptoBulkAll parts + 1
  | .iface _ d => uptoBulk d + 1
  | .map entries => uptoBulkEntries entries + 1
  | .held _ => 1
def uptoBulkAll {H : Type} : List (DataW H) → Nat
  | [] => 0
  | d :: r => uptoBulk d + uptoBulkAll r
def uptoBulkEntries {H : Type} : List (Lit × DataW H) → Nat
  | [] => 0
  | x :: r => uptoBulkEntry x + uptoBulkEntries r
def uptoBulkEntry {H : Type} : Lit × DataW H → Nat
  | (.string bytes, d) => bytes.length + uptoBulk d + 1
  | (_, d) => uptoBulk d + 1
 end
def uptoSmall : (H : Type) → List (DataW H) → Bool := fun _ ds => decide (uptoBulkAll ds ≤ 1048576)
def OpenSpec.upto (s : _root_.Go.ChangeSpec) : _root_.Go.OpenSpec := { _root_.Go.OpenSpec.ofChange s with cond := some uptoSmall }

/-- 'touchmarklaw08.FeeTerms', WHERE WHAT IT READS IS OF BULK AT MOST 1048576: true; the input reads as it did. -/
def feeTermsUptoRow : OpenClaim := { program := "ytccjdkghgbbliaagreatdoor", sum := "43cf30c04251f030be4f66fd75cb9b3ac3fc553935b0bbad5bc093039cc5df48", func := "touchmark/touchmarklaw08.FeeTerms", spec := "feeTerms", inPlace := ["internal/bytealg.IndexByteString", "internal/bytealg.IndexString", "(*sync.WaitGroup).Add", "internal/race.ReleaseMerge", "internal/race.Disable", "internal/race.Enable", "internal/synctest.IsInBubble", "internal/synctest.Associate[sync.WaitGroup]", "sync.fatal", "sync/atomic.OrUint64", "sync/atomic.AddUint64", "internal/race.Read", "sync/atomic.LoadUint64", "sync/atomic.StoreUint64", "internal/synctest.Disassociate[sync.WaitGroup]", "sync.runtime_Semrelease", "(*sync.WaitGroup).Done", "(*sync.WaitGroup).Wait", "internal/race.Acquire", "internal/synctest.IsAssociated[sync.WaitGroup]", "sync/atomic.CompareAndSwapUint64", "internal/race.Write", "sync.runtime_SemacquireWaitGroup"], unfollowed := true, recurses := true, named := ["unicode/utf8.first", "unicode/utf8.acceptRanges", "touchmark/fees.kinds", "touchmark/dates.lengths", "internal/bytealg.MaxLen"], plainKeys := false, leaving := true, apart := false, laid := [("unicode/utf8.acceptRanges", laid_unicode_utf8_acceptRanges), ("touchmark/dates.lengths", laid_touchmark_dates_lengths), ("touchmark/fees.kinds", laid_touchmark_fees_kinds), ("unicode/utf8.first", laid_unicode_utf8_first)], narrowed := true }
def FeeTermsUptoSaid : Prop := feeTermsUptoRow.holds Tryz.pinned (OpenSpec.upto feeTermsSpec)

/-- 'touchmarklaw08.FeeClasses', WHERE WHAT IT READS IS OF BULK AT MOST 1048576: true; the input reads as it did. -/
def feeClassesUptoRow : OpenClaim := { program := "ytccjdkghgbbliaagreatdoor", sum := "43cf30c04251f030be4f66fd75cb9b3ac3fc553935b0bbad5bc093039cc5df48", func := "touchmark/touchmarklaw08.FeeClasses", spec := "feeClasses", inPlace := ["internal/bytealg.IndexByteString", "internal/bytealg.IndexString", "(*sync.WaitGroup).Add", "internal/race.ReleaseMerge", "internal/race.Disable", "internal/race.Enable", "internal/synctest.IsInBubble", "internal/synctest.Associate[sync.WaitGroup]", "sync.fatal", "sync/atomic.OrUint64", "sync/atomic.AddUint64", "internal/race.Read", "sync/atomic.LoadUint64", "sync/atomic.StoreUint64", "internal/synctest.Disassociate[sync.WaitGroup]", "sync.runtime_Semrelease", "(*sync.WaitGroup).Done", "(*sync.WaitGroup).Wait", "internal/race.Acquire", "internal/synctest.IsAssociated[sync.WaitGroup]", "sync/atomic.CompareAndSwapUint64", "internal/race.Write", "sync.runtime_SemacquireWaitGroup"], unfollowed := true, recurses := true, named := ["unicode/utf8.first", "unicode/utf8.acceptRanges", "touchmark/fees.kinds", "internal/bytealg.MaxLen"], plainKeys := false, leaving := true, apart := false, laid := [("unicode/utf8.acceptRanges", laid_unicode_utf8_acceptRanges), ("touchmark/fees.kinds", laid_touchmark_fees_kinds), ("unicode/utf8.first", laid_unicode_utf8_first)], narrowed := true }
def FeeClassesUptoSaid : Prop := feeClassesUptoRow.holds Tryz.pinned (OpenSpec.upto feeClassesSpec)

/-- 'touchmarklaw08.FeeUsed', WHERE WHAT IT READS IS OF BULK AT MOST 1048576: true; the input reads as it did. -/
def feeUsedUptoRow : OpenClaim := { program := "ytccjdkghgbbliaagreatdoor", sum := "43cf30c04251f030be4f66fd75cb9b3ac3fc553935b0bbad5bc093039cc5df48", func := "touchmark/touchmarklaw08.FeeUsed", spec := "feeUsed", inPlace := ["internal/bytealg.IndexByteString", "internal/bytealg.IndexString", "(*sync.WaitGroup).Add", "internal/race.ReleaseMerge", "internal/race.Disable", "internal/race.Enable", "internal/synctest.IsInBubble", "internal/synctest.Associate[sync.WaitGroup]", "sync.fatal", "sync/atomic.OrUint64", "sync/atomic.AddUint64", "internal/race.Read", "sync/atomic.LoadUint64", "sync/atomic.StoreUint64", "internal/synctest.Disassociate[sync.WaitGroup]", "sync.runtime_Semrelease", "(*sync.WaitGroup).Done", "(*sync.WaitGroup).Wait", "internal/race.Acquire", "internal/synctest.IsAssociated[sync.WaitGroup]", "sync/atomic.CompareAndSwapUint64", "internal/race.Write", "sync.runtime_SemacquireWaitGroup"], unfollowed := true, recurses := true, named := ["unicode/utf8.first", "unicode/utf8.acceptRanges", "touchmark/fees.kinds", "touchmark/use.parts", "internal/bytealg.MaxLen"], plainKeys := false, leaving := true, apart := false, laid := [("unicode/utf8.acceptRanges", laid_unicode_utf8_acceptRanges), ("touchmark/fees.kinds", laid_touchmark_fees_kinds), ("touchmark/use.parts", laid_touchmark_use_parts), ("unicode/utf8.first", laid_unicode_utf8_first)], narrowed := true }
def FeeUsedUptoSaid : Prop := feeUsedUptoRow.holds Tryz.pinned (OpenSpec.upto feeUsedSpec)

/-- 'touchmarklaw08.FeeOpposed', WHERE WHAT IT READS IS OF BULK AT MOST 1048576: true; the input reads as it did. -/
def feeOpposedUptoRow : OpenClaim := { program := "ytccjdkghgbbliaagreatdoor", sum := "43cf30c04251f030be4f66fd75cb9b3ac3fc553935b0bbad5bc093039cc5df48", func := "touchmark/touchmarklaw08.FeeOpposed", spec := "feeOpposed", inPlace := ["internal/bytealg.IndexByteString", "internal/bytealg.IndexString", "(*sync.WaitGroup).Add", "internal/race.ReleaseMerge", "internal/race.Disable", "internal/race.Enable", "internal/synctest.IsInBubble", "internal/synctest.Associate[sync.WaitGroup]", "sync.fatal", "sync/atomic.OrUint64", "sync/atomic.AddUint64", "internal/race.Read", "sync/atomic.LoadUint64", "sync/atomic.StoreUint64", "internal/synctest.Disassociate[sync.WaitGroup]", "sync.runtime_Semrelease", "(*sync.WaitGroup).Done", "(*sync.WaitGroup).Wait", "internal/race.Acquire", "internal/synctest.IsAssociated[sync.WaitGroup]", "sync/atomic.CompareAndSwapUint64", "internal/race.Write", "sync.runtime_SemacquireWaitGroup"], unfollowed := true, recurses := true, named := ["unicode/utf8.first", "unicode/utf8.acceptRanges", "touchmark/fees.kinds", "touchmark/rival.checks", "internal/bytealg.MaxLen"], plainKeys := false, leaving := true, apart := false, laid := [("unicode/utf8.acceptRanges", laid_unicode_utf8_acceptRanges), ("touchmark/fees.kinds", laid_touchmark_fees_kinds), ("touchmark/rival.checks", laid_touchmark_rival_checks), ("unicode/utf8.first", laid_unicode_utf8_first)], narrowed := true }
def FeeOpposedUptoSaid : Prop := feeOpposedUptoRow.holds Tryz.pinned (OpenSpec.upto feeOpposedSpec)

end Rows
end Go.Proofs.YtccjdkghgbbliaaGreatDoor

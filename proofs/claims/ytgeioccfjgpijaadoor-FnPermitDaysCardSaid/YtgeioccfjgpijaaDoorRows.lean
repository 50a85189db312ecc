/-
  NARROWER THAN 'FOR EVERY INPUT', by the rows' own cells (each row's printed sentence says how): FnExactIsPermit: laid · FnExactArePermits: laid · FnExactAllowedOn: laid · FnExactFirstSlot: laid · FnExactAskPermit: laid · FnExactLapsePermits: laid · FnExactUsePermit: laid · FnExactDecidePermit: laid · FnExactFreeDays: laid · FnPermits: laid · FnPermitDays: laid.
  DERIVED. THE GIVEN ROWS OF THIS SEAT. 11 by the template 'for every input the law returns true; each argument reads behind the call as it read before'; 0 by the template 'total and deterministic' (their statements: YtgeioccfjgpijaaDoorTotals.lean).
  GIVEN WITH THE SEED: the statements are not yours to turn. If you find one false, say at which input.
  Laid BY PROGRAM, IN A SANDBOX (cutbox-rows.mjs): the forced cells as the released guide's own fill.sh prints them over the translation 1cd053c53e1f6159… (all of the seat's roots in one cut). By AI agents, Wed Nov 11 2026. No macro, syntax, notation, axiom, sorry.
-/
import Derived.Test.YtgeioccfjgpijaaDoorChecked
import GoSem.PinnedTables
import GoSem.Claim
import GoSem.ClaimJoined
import GoSem.ClaimMapViews
import Derived.JoinedTies
import Derived.KernelRfl
namespace Go.Proofs.YtgeioccfjgpijaaDoor
/- THE CELL 'sum', in the pinned program and in every row, IS THE sha256 OF THE DUMP (.gsa) THAT YtgeioccfjgpijaaDoorProg.lean LOADS. Nothing in Lean hashes anything: it is a label: what it is worth is what the hold of that sum in a sandbox is worth. -/
noncomputable def Tryd.pinned : Pinned := { name := "ytgeioccfjgpijaadoor", sum := "1cd053c53e1f615907b9574eddc7ceada700d54779fe32ecb2e3f0e04dc66944", checked := Tryd.checked }
namespace Rows
def none {H : Type} : Left H := { results := [], args := [] }

/- WHAT THE LISTED PACKAGE-LEVEL VARIABLES READ AS WHEN THE CALL BEGINS. Each datum BY PROGRAM (the guide's laid-datum.mjs) off the statement by which the dump's own 'gosem.cut.vars' lays the variable. In a bare row this is a premise. The card (YtgeioccfjgpijaaDoorCards.lean) ties it to the program's text. -/
def laid_unicode_utf8_acceptRanges {H : Type} : DataW H := .agg [.agg [.lit (.int .u8 128), .lit (.int .u8 191)], .agg [.lit (.int .u8 160), .lit (.int .u8 191)], .agg [.lit (.int .u8 128), .lit (.int .u8 159)], .agg [.lit (.int .u8 144), .lit (.int .u8 191)], .agg [.lit (.int .u8 128), .lit (.int .u8 143)], .agg [.lit (.int .u8 0), .lit (.int .u8 0)], .agg [.lit (.int .u8 0), .lit (.int .u8 0)], .agg [.lit (.int .u8 0), .lit (.int .u8 0)], .agg [.lit (.int .u8 0), .lit (.int .u8 0)], .agg [.lit (.int .u8 0), .lit (.int .u8 0)], .agg [.lit (.int .u8 0), .lit (.int .u8 0)], .agg [.lit (.int .u8 0), .lit (.int .u8 0)], .agg [.lit (.int .u8 0), .lit (.int .u8 0)], .agg [.lit (.int .u8 0), .lit (.int .u8 0)], .agg [.lit (.int .u8 0), .lit (.int .u8 0)], .agg [.lit (.int .u8 0), .lit (.int .u8 0)]]
/-- One of Go's own tables, pinned by name: the form's constant. -/
def laid_unicode_utf8_first : DataW Unit := Go.Pinned.utf8First

/-- 'laws.FnExactIsPermit': WHATEVER THE INPUT: true; the input reads as it did. -/
def fnExactIsPermitSpec : ChangeSpec := { name := "fnExactIsPermit", fn := fun _ => fun
  | [d] => { results := [.lit (.bool true)], args := [d] }
  | _ => none }
def fnExactIsPermitRow : OpenClaim := { program := "ytgeioccfjgpijaadoor", sum := "1cd053c53e1f615907b9574eddc7ceada700d54779fe32ecb2e3f0e04dc66944", func := "loop.example/g00933/laws.FnExactIsPermit", spec := "fnExactIsPermit", inPlace := ["internal/bytealg.IndexByteString", "internal/bytealg.IndexString"], named := ["unicode/utf8.first", "unicode/utf8.acceptRanges", "internal/bytealg.MaxLen"], apart := false, laid := [("unicode/utf8.acceptRanges", laid_unicode_utf8_acceptRanges), ("unicode/utf8.first", laid_unicode_utf8_first)] }
def FnExactIsPermitSaid : Prop := fnExactIsPermitRow.holds Tryd.pinned (OpenSpec.ofChange fnExactIsPermitSpec)

/-- ITS FALSE NEIGHBOUR: 'it returns false'. Refute it at one input. -/
def fnExactIsPermitWrong : ChangeSpec := { name := "fnExactIsPermit", fn := fun _ => fun
  | [d] => { results := [.lit (.bool false)], args := [d] }
  | _ => none }
def FnExactIsPermitWrongFalsely : Prop := fnExactIsPermitRow.holds Tryd.pinned (OpenSpec.ofChange fnExactIsPermitWrong)

/-- 'laws.FnExactArePermits': WHATEVER THE INPUT: true; the input reads as it did. -/
def fnExactArePermitsSpec : ChangeSpec := { name := "fnExactArePermits", fn := fun _ => fun
  | [d] => { results := [.lit (.bool true)], args := [d] }
  | _ => none }
def fnExactArePermitsRow : OpenClaim := { program := "ytgeioccfjgpijaadoor", sum := "1cd053c53e1f615907b9574eddc7ceada700d54779fe32ecb2e3f0e04dc66944", func := "loop.example/g00933/laws.FnExactArePermits", spec := "fnExactArePermits", inPlace := ["internal/bytealg.IndexByteString", "internal/bytealg.IndexString"], unfollowed := true, recurses := true, named := ["unicode/utf8.first", "unicode/utf8.acceptRanges", "internal/bytealg.MaxLen"], apart := false, laid := [("unicode/utf8.acceptRanges", laid_unicode_utf8_acceptRanges), ("unicode/utf8.first", laid_unicode_utf8_first)] }
def FnExactArePermitsSaid : Prop := fnExactArePermitsRow.holds Tryd.pinned (OpenSpec.ofChange fnExactArePermitsSpec)

/-- ITS FALSE NEIGHBOUR: 'it returns false'. Refute it at one input. -/
def fnExactArePermitsWrong : ChangeSpec := { name := "fnExactArePermits", fn := fun _ => fun
  | [d] => { results := [.lit (.bool false)], args := [d] }
  | _ => none }
def FnExactArePermitsWrongFalsely : Prop := fnExactArePermitsRow.holds Tryd.pinned (OpenSpec.ofChange fnExactArePermitsWrong)

/-- 'laws.FnExactAllowedOn': WHATEVER THE INPUT: true; the input reads as it did. -/
def fnExactAllowedOnSpec : ChangeSpec := { name := "fnExactAllowedOn", fn := fun _ => fun
  | [d1, d2, d3] => { results := [.lit (.bool true)], args := [d1, d2, d3] }
  | _ => none }
def fnExactAllowedOnRow : OpenClaim := { program := "ytgeioccfjgpijaadoor", sum := "1cd053c53e1f615907b9574eddc7ceada700d54779fe32ecb2e3f0e04dc66944", func := "loop.example/g00933/laws.FnExactAllowedOn", spec := "fnExactAllowedOn", inPlace := ["internal/bytealg.IndexByteString", "internal/bytealg.IndexString"], unfollowed := true, recurses := true, named := ["unicode/utf8.first", "unicode/utf8.acceptRanges", "internal/bytealg.MaxLen"], apart := false, laid := [("unicode/utf8.acceptRanges", laid_unicode_utf8_acceptRanges), ("unicode/utf8.first", laid_unicode_utf8_first)] }
def FnExactAllowedOnSaid : Prop := fnExactAllowedOnRow.holds Tryd.pinned (OpenSpec.ofChange fnExactAllowedOnSpec)

/-- ITS FALSE NEIGHBOUR: 'it returns false'. Refute it at one input. -/
def fnExactAllowedOnWrong : ChangeSpec := { name := "fnExactAllowedOn", fn := fun _ => fun
  | [d1, d2, d3] => { results := [.lit (.bool false)], args := [d1, d2, d3] }
  | _ => none }
def FnExactAllowedOnWrongFalsely : Prop := fnExactAllowedOnRow.holds Tryd.pinned (OpenSpec.ofChange fnExactAllowedOnWrong)

/-- 'laws.FnExactFirstSlot': WHATEVER THE INPUT: true; the input reads as it did. -/
def fnExactFirstSlotSpec : ChangeSpec := { name := "fnExactFirstSlot", fn := fun _ => fun
  | [d1, d2, d3, d4] => { results := [.lit (.bool true)], args := [d1, d2, d3, d4] }
  | _ => none }
def fnExactFirstSlotRow : OpenClaim := { program := "ytgeioccfjgpijaadoor", sum := "1cd053c53e1f615907b9574eddc7ceada700d54779fe32ecb2e3f0e04dc66944", func := "loop.example/g00933/laws.FnExactFirstSlot", spec := "fnExactFirstSlot", inPlace := ["internal/bytealg.IndexByteString", "internal/bytealg.IndexString"], unfollowed := true, recurses := true, named := ["unicode/utf8.first", "unicode/utf8.acceptRanges", "internal/bytealg.MaxLen"], apart := false, laid := [("unicode/utf8.acceptRanges", laid_unicode_utf8_acceptRanges), ("unicode/utf8.first", laid_unicode_utf8_first)] }
def FnExactFirstSlotSaid : Prop := fnExactFirstSlotRow.holds Tryd.pinned (OpenSpec.ofChange fnExactFirstSlotSpec)

/-- ITS FALSE NEIGHBOUR: 'it returns false'. Refute it at one input. -/
def fnExactFirstSlotWrong : ChangeSpec := { name := "fnExactFirstSlot", fn := fun _ => fun
  | [d1, d2, d3, d4] => { results := [.lit (.bool false)], args := [d1, d2, d3, d4] }
  | _ => none }
def FnExactFirstSlotWrongFalsely : Prop := fnExactFirstSlotRow.holds Tryd.pinned (OpenSpec.ofChange fnExactFirstSlotWrong)

/-- 'laws.FnExactAskPermit': WHATEVER THE INPUT: true; the input reads as it did. -/
def fnExactAskPermitSpec : ChangeSpec := { name := "fnExactAskPermit", fn := fun _ => fun
  | [d1, d2, d3, d4, d5] => { results := [.lit (.bool true)], args := [d1, d2, d3, d4, d5] }
  | _ => none }
def fnExactAskPermitRow : OpenClaim := { program := "ytgeioccfjgpijaadoor", sum := "1cd053c53e1f615907b9574eddc7ceada700d54779fe32ecb2e3f0e04dc66944", func := "loop.example/g00933/laws.FnExactAskPermit", spec := "fnExactAskPermit", inPlace := ["internal/bytealg.IndexByteString", "internal/bytealg.IndexString"], unfollowed := true, recurses := true, named := ["unicode/utf8.first", "unicode/utf8.acceptRanges", "internal/bytealg.MaxLen"], apart := false, laid := [("unicode/utf8.acceptRanges", laid_unicode_utf8_acceptRanges), ("unicode/utf8.first", laid_unicode_utf8_first)] }
def FnExactAskPermitSaid : Prop := fnExactAskPermitRow.holds Tryd.pinned (OpenSpec.ofChange fnExactAskPermitSpec)

/-- ITS FALSE NEIGHBOUR: 'it returns false'. Refute it at one input. -/
def fnExactAskPermitWrong : ChangeSpec := { name := "fnExactAskPermit", fn := fun _ => fun
  | [d1, d2, d3, d4, d5] => { results := [.lit (.bool false)], args := [d1, d2, d3, d4, d5] }
  | _ => none }
def FnExactAskPermitWrongFalsely : Prop := fnExactAskPermitRow.holds Tryd.pinned (OpenSpec.ofChange fnExactAskPermitWrong)

/-- 'laws.FnExactLapsePermits': WHATEVER THE INPUT: true; the input reads as it did. -/
def fnExactLapsePermitsSpec : ChangeSpec := { name := "fnExactLapsePermits", fn := fun _ => fun
  | [d1, d2] => { results := [.lit (.bool true)], args := [d1, d2] }
  | _ => none }
def fnExactLapsePermitsRow : OpenClaim := { program := "ytgeioccfjgpijaadoor", sum := "1cd053c53e1f615907b9574eddc7ceada700d54779fe32ecb2e3f0e04dc66944", func := "loop.example/g00933/laws.FnExactLapsePermits", spec := "fnExactLapsePermits", inPlace := ["internal/bytealg.IndexByteString", "internal/bytealg.IndexString"], unfollowed := true, recurses := true, named := ["unicode/utf8.first", "unicode/utf8.acceptRanges", "internal/bytealg.MaxLen"], apart := false, laid := [("unicode/utf8.acceptRanges", laid_unicode_utf8_acceptRanges), ("unicode/utf8.first", laid_unicode_utf8_first)] }
def FnExactLapsePermitsSaid : Prop := fnExactLapsePermitsRow.holds Tryd.pinned (OpenSpec.ofChange fnExactLapsePermitsSpec)

/-- ITS FALSE NEIGHBOUR: 'it returns false'. Refute it at one input. -/
def fnExactLapsePermitsWrong : ChangeSpec := { name := "fnExactLapsePermits", fn := fun _ => fun
  | [d1, d2] => { results := [.lit (.bool false)], args := [d1, d2] }
  | _ => none }
def FnExactLapsePermitsWrongFalsely : Prop := fnExactLapsePermitsRow.holds Tryd.pinned (OpenSpec.ofChange fnExactLapsePermitsWrong)

/-- 'laws.FnExactUsePermit': WHATEVER THE INPUT: true; the input reads as it did. -/
def fnExactUsePermitSpec : ChangeSpec := { name := "fnExactUsePermit", fn := fun _ => fun
  | [d1, d2, d3, d4] => { results := [.lit (.bool true)], args := [d1, d2, d3, d4] }
  | _ => none }
def fnExactUsePermitRow : OpenClaim := { program := "ytgeioccfjgpijaadoor", sum := "1cd053c53e1f615907b9574eddc7ceada700d54779fe32ecb2e3f0e04dc66944", func := "loop.example/g00933/laws.FnExactUsePermit", spec := "fnExactUsePermit", inPlace := ["internal/bytealg.IndexByteString", "internal/bytealg.IndexString"], unfollowed := true, recurses := true, named := ["unicode/utf8.first", "unicode/utf8.acceptRanges", "internal/bytealg.MaxLen"], apart := false, laid := [("unicode/utf8.acceptRanges", laid_unicode_utf8_acceptRanges), ("unicode/utf8.first", laid_unicode_utf8_first)] }
def FnExactUsePermitSaid : Prop := fnExactUsePermitRow.holds Tryd.pinned (OpenSpec.ofChange fnExactUsePermitSpec)

/-- ITS FALSE NEIGHBOUR: 'it returns false'. Refute it at one input. -/
def fnExactUsePermitWrong : ChangeSpec := { name := "fnExactUsePermit", fn := fun _ => fun
  | [d1, d2, d3, d4] => { results := [.lit (.bool false)], args := [d1, d2, d3, d4] }
  | _ => none }
def FnExactUsePermitWrongFalsely : Prop := fnExactUsePermitRow.holds Tryd.pinned (OpenSpec.ofChange fnExactUsePermitWrong)

/-- 'laws.FnExactDecidePermit': WHATEVER THE INPUT: true; the input reads as it did. -/
def fnExactDecidePermitSpec : ChangeSpec := { name := "fnExactDecidePermit", fn := fun _ => fun
  | [d1, d2, d3] => { results := [.lit (.bool true)], args := [d1, d2, d3] }
  | _ => none }
def fnExactDecidePermitRow : OpenClaim := { program := "ytgeioccfjgpijaadoor", sum := "1cd053c53e1f615907b9574eddc7ceada700d54779fe32ecb2e3f0e04dc66944", func := "loop.example/g00933/laws.FnExactDecidePermit", spec := "fnExactDecidePermit", inPlace := ["internal/bytealg.IndexByteString", "internal/bytealg.IndexString"], unfollowed := true, recurses := true, named := ["unicode/utf8.first", "unicode/utf8.acceptRanges", "internal/bytealg.MaxLen"], apart := false, laid := [("unicode/utf8.acceptRanges", laid_unicode_utf8_acceptRanges), ("unicode/utf8.first", laid_unicode_utf8_first)] }
def FnExactDecidePermitSaid : Prop := fnExactDecidePermitRow.holds Tryd.pinned (OpenSpec.ofChange fnExactDecidePermitSpec)

/-- ITS FALSE NEIGHBOUR: 'it returns false'. Refute it at one input. -/
def fnExactDecidePermitWrong : ChangeSpec := { name := "fnExactDecidePermit", fn := fun _ => fun
  | [d1, d2, d3] => { results := [.lit (.bool false)], args := [d1, d2, d3] }
  | _ => none }
def FnExactDecidePermitWrongFalsely : Prop := fnExactDecidePermitRow.holds Tryd.pinned (OpenSpec.ofChange fnExactDecidePermitWrong)

/-- 'laws.FnExactFreeDays': WHATEVER THE INPUT: true; the input reads as it did. -/
def fnExactFreeDaysSpec : ChangeSpec := { name := "fnExactFreeDays", fn := fun _ => fun
  | [d1, d2, d3, d4] => { results := [.lit (.bool true)], args := [d1, d2, d3, d4] }
  | _ => none }
def fnExactFreeDaysRow : OpenClaim := { program := "ytgeioccfjgpijaadoor", sum := "1cd053c53e1f615907b9574eddc7ceada700d54779fe32ecb2e3f0e04dc66944", func := "loop.example/g00933/laws.FnExactFreeDays", spec := "fnExactFreeDays", inPlace := ["internal/bytealg.IndexByteString", "internal/bytealg.IndexString"], unfollowed := true, recurses := true, named := ["unicode/utf8.first", "unicode/utf8.acceptRanges", "internal/bytealg.MaxLen"], apart := false, laid := [("unicode/utf8.acceptRanges", laid_unicode_utf8_acceptRanges), ("unicode/utf8.first", laid_unicode_utf8_first)] }
def FnExactFreeDaysSaid : Prop := fnExactFreeDaysRow.holds Tryd.pinned (OpenSpec.ofChange fnExactFreeDaysSpec)

/-- ITS FALSE NEIGHBOUR: 'it returns false'. Refute it at one input. -/
def fnExactFreeDaysWrong : ChangeSpec := { name := "fnExactFreeDays", fn := fun _ => fun
  | [d1, d2, d3, d4] => { results := [.lit (.bool false)], args := [d1, d2, d3, d4] }
  | _ => none }
def FnExactFreeDaysWrongFalsely : Prop := fnExactFreeDaysRow.holds Tryd.pinned (OpenSpec.ofChange fnExactFreeDaysWrong)

/-- 'laws.FnPermits': WHATEVER THE INPUT: true; the input reads as it did. -/
def fnPermitsSpec : ChangeSpec := { name := "fnPermits", fn := fun _ => fun
  | [d] => { results := [.lit (.bool true)], args := [d] }
  | _ => none }
def fnPermitsRow : OpenClaim := { program := "ytgeioccfjgpijaadoor", sum := "1cd053c53e1f615907b9574eddc7ceada700d54779fe32ecb2e3f0e04dc66944", func := "loop.example/g00933/laws.FnPermits", spec := "fnPermits", inPlace := ["internal/bytealg.IndexByteString", "internal/bytealg.IndexString"], unfollowed := true, recurses := true, named := ["unicode/utf8.first", "unicode/utf8.acceptRanges", "internal/bytealg.MaxLen"], apart := false, laid := [("unicode/utf8.acceptRanges", laid_unicode_utf8_acceptRanges), ("unicode/utf8.first", laid_unicode_utf8_first)] }
def FnPermitsSaid : Prop := fnPermitsRow.holds Tryd.pinned (OpenSpec.ofChange fnPermitsSpec)

/-- ITS FALSE NEIGHBOUR: 'it returns false'. Refute it at one input. -/
def fnPermitsWrong : ChangeSpec := { name := "fnPermits", fn := fun _ => fun
  | [d] => { results := [.lit (.bool false)], args := [d] }
  | _ => none }
def FnPermitsWrongFalsely : Prop := fnPermitsRow.holds Tryd.pinned (OpenSpec.ofChange fnPermitsWrong)

/-- 'laws.FnPermitDays': WHATEVER THE INPUT: true; the input reads as it did. -/
def fnPermitDaysSpec : ChangeSpec := { name := "fnPermitDays", fn := fun _ => fun
  | [d] => { results := [.lit (.bool true)], args := [d] }
  | _ => none }
def fnPermitDaysRow : OpenClaim := { program := "ytgeioccfjgpijaadoor", sum := "1cd053c53e1f615907b9574eddc7ceada700d54779fe32ecb2e3f0e04dc66944", func := "loop.example/g00933/laws.FnPermitDays", spec := "fnPermitDays", inPlace := ["internal/bytealg.IndexByteString", "internal/bytealg.IndexString"], unfollowed := true, recurses := true, named := ["unicode/utf8.first", "unicode/utf8.acceptRanges", "internal/bytealg.MaxLen"], apart := false, laid := [("unicode/utf8.acceptRanges", laid_unicode_utf8_acceptRanges), ("unicode/utf8.first", laid_unicode_utf8_first)] }
def FnPermitDaysSaid : Prop := fnPermitDaysRow.holds Tryd.pinned (OpenSpec.ofChange fnPermitDaysSpec)

/-- ITS FALSE NEIGHBOUR: 'it returns false'. Refute it at one input. -/
def fnPermitDaysWrong : ChangeSpec := { name := "fnPermitDays", fn := fun _ => fun
  | [d] => { results := [.lit (.bool false)], args := [d] }
  | _ => none }
def FnPermitDaysWrongFalsely : Prop := fnPermitDaysRow.holds Tryd.pinned (OpenSpec.ofChange fnPermitDaysWrong)

/- THE SECOND FORM. 'bulk': how many values and letters a reading holds, each counted each time it is reached (what is shared counts as often as it is met; a slice's spare places count too). A statement '..UptoSaid' is the law's where the arguments, and the package variables that the reading takes, are together of bulk at most 1048576: NARROWER than '..Said'. Prove '..Said' where nothing that the law and all that it calls make is longer than what came in: it says more and counts as full. Else prove '..UptoSaid'. A law counts once. -/
mutual
def uptoBulk {H : Type} : DataW H → Nat
  | .lit (.string bytes) => bytes.length + 1
  | .lit _ => 1
  | .nil => 1
  | .ptr d => uptoBulk d + 1
  | .slice elems spare => uptoBulkAll elems + uptoBulkAll spare + 1
  | .agg parts => uptoBulkAll parts + 1
  | .iface _ d => uptoBulk d + 1
  | .map entries => uptoBulkEntries entries + 1
  | .held _ => 1
def uptoBulkAll {H : Type} : List (DataW H) → Nat
  | [] => 0
  | d :: r => uptoBulk d + uptoBulkAll r
def uptoBulkEntries {H : Type} : List (Lit × DataW H) → Nat
  | [] => 0
  | x :: r => uptoBulkEntry x + uptoBulkEntries r
def uptoBulkEntry {H : Type} : Lit × DataW H → Nat
  | (.string bytes, d) => bytes.length + uptoBulk d + 1
  | (_, d) => uptoBulk d + 1
 end
def uptoSmall : (H : Type) → List (DataW H) → Bool := fun _ ds => decide (uptoBulkAll ds ≤ 1048576)
def OpenSpec.upto (s : _root_.Go.ChangeSpec) : _root_.Go.OpenSpec := { _root_.Go.OpenSpec.ofChange s with cond := some uptoSmall }

/-- 'laws.FnExactIsPermit', WHERE WHAT IT READS IS OF BULK AT MOST 1048576: true; the input reads as it did. -/
def fnExactIsPermitUptoRow : OpenClaim := { program := "ytgeioccfjgpijaadoor", sum := "1cd053c53e1f615907b9574eddc7ceada700d54779fe32ecb2e3f0e04dc66944", func := "loop.example/g00933/laws.FnExactIsPermit", spec := "fnExactIsPermit", inPlace := ["internal/bytealg.IndexByteString", "internal/bytealg.IndexString"], named := ["unicode/utf8.first", "unicode/utf8.acceptRanges", "internal/bytealg.MaxLen"], apart := false, laid := [("unicode/utf8.acceptRanges", laid_unicode_utf8_acceptRanges), ("unicode/utf8.first", laid_unicode_utf8_first)], narrowed := true }
def FnExactIsPermitUptoSaid : Prop := fnExactIsPermitUptoRow.holds Tryd.pinned (OpenSpec.upto fnExactIsPermitSpec)

/-- 'laws.FnExactArePermits', WHERE WHAT IT READS IS OF BULK AT MOST 1048576: true; the input reads as it did. -/
def fnExactArePermitsUptoRow : OpenClaim := { program := "ytgeioccfjgpijaadoor", sum := "1cd053c53e1f615907b9574eddc7ceada700d54779fe32ecb2e3f0e04dc66944", func := "loop.example/g00933/laws.FnExactArePermits", spec := "fnExactArePermits", inPlace := ["internal/bytealg.IndexByteString", "internal/bytealg.IndexString"], unfollowed := true, recurses := true, named := ["unicode/utf8.first", "unicode/utf8.acceptRanges", "internal/bytealg.MaxLen"], apart := false, laid := [("unicode/utf8.acceptRanges", laid_unicode_utf8_acceptRanges), ("unicode/utf8.first", laid_unicode_utf8_first)], narrowed := true }
def FnExactArePermitsUptoSaid : Prop := fnExactArePermitsUptoRow.holds Tryd.pinned (OpenSpec.upto fnExactArePermitsSpec)

/-- 'laws.FnExactAllowedOn', WHERE WHAT IT READS IS OF BULK AT MOST 1048576: true; the input reads as it did. -/
def fnExactAllowedOnUptoRow : OpenClaim := { program := "ytgeioccfjgpijaadoor", sum := "1cd053c53e1f615907b9574eddc7ceada700d54779fe32ecb2e3f0e04dc66944", func := "loop.example/g00933/laws.FnExactAllowedOn", spec := "fnExactAllowedOn", inPlace := ["internal/bytealg.IndexByteString", "internal/bytealg.IndexString"], unfollowed := true, recurses := true, named := ["unicode/utf8.first", "unicode/utf8.acceptRanges", "internal/bytealg.MaxLen"], apart := false, laid := [("unicode/utf8.acceptRanges", laid_unicode_utf8_acceptRanges), ("unicode/utf8.first", laid_unicode_utf8_first)], narrowed := true }
def FnExactAllowedOnUptoSaid : Prop := fnExactAllowedOnUptoRow.holds Tryd.pinned (OpenSpec.upto fnExactAllowedOnSpec)

/-- 'laws.FnExactFirstSlot', WHERE WHAT IT READS IS OF BULK AT MOST 1048576: true; the input reads as it did. -/
def fnExactFirstSlotUptoRow : OpenClaim := { program := "ytgeioccfjgpijaadoor", sum := "1cd053c53e1f615907b9574eddc7ceada700d54779fe32ecb2e3f0e04dc66944", func := "loop.example/g00933/laws.FnExactFirstSlot", spec := "fnExactFirstSlot", inPlace := ["internal/bytealg.IndexByteString", "internal/bytealg.IndexString"], unfollowed := true, recurses := true, named := ["unicode/utf8.first", "unicode/utf8.acceptRanges", "internal/bytealg.MaxLen"], apart := false, laid := [("unicode/utf8.acceptRanges", laid_unicode_utf8_acceptRanges), ("unicode/utf8.first", laid_unicode_utf8_first)], narrowed := true }
def FnExactFirstSlotUptoSaid : Prop := fnExactFirstSlotUptoRow.holds Tryd.pinned (OpenSpec.upto fnExactFirstSlotSpec)

/-- 'laws.FnExactAskPermit', WHERE WHAT IT READS IS OF BULK AT MOST 1048576: true; the input reads as it did. -/
def fnExactAskPermitUptoRow : OpenClaim := { program := "ytgeioccfjgpijaadoor", sum := "1cd053c53e1f615907b9574eddc7ceada700d54779fe32ecb2e3f0e04dc66944", func := "loop.example/g00933/laws.FnExactAskPermit", spec := "fnExactAskPermit", inPlace := ["internal/bytealg.IndexByteString", "internal/bytealg.IndexString"], unfollowed := true, recurses := true, named := ["unicode/utf8.first", "unicode/utf8.acceptRanges", "internal/bytealg.MaxLen"], apart := false, laid := [("unicode/utf8.acceptRanges", laid_unicode_utf8_acceptRanges), ("unicode/utf8.first", laid_unicode_utf8_first)], narrowed := true }
def FnExactAskPermitUptoSaid : Prop := fnExactAskPermitUptoRow.holds Tryd.pinned (OpenSpec.upto fnExactAskPermitSpec)

/-- 'laws.FnExactLapsePermits', WHERE WHAT IT READS IS OF BULK AT MOST 1048576: true; the input reads as it did. -/
def fnExactLapsePermitsUptoRow : OpenClaim := { program := "ytgeioccfjgpijaadoor", sum := "1cd053c53e1f615907b9574eddc7ceada700d54779fe32ecb2e3f0e04dc66944", func := "loop.example/g00933/laws.FnExactLapsePermits", spec := "fnExactLapsePermits", inPlace := ["internal/bytealg.IndexByteString", "internal/bytealg.IndexString"], unfollowed := true, recurses := true, named := ["unicode/utf8.first", "unicode/utf8.acceptRanges", "internal/bytealg.MaxLen"], apart := false, laid := [("unicode/utf8.acceptRanges", laid_unicode_utf8_acceptRanges), ("unicode/utf8.first", laid_unicode_utf8_first)], narrowed := true }
def FnExactLapsePermitsUptoSaid : Prop := fnExactLapsePermitsUptoRow.holds Tryd.pinned (OpenSpec.upto fnExactLapsePermitsSpec)

/-- 'laws.FnExactUsePermit', WHERE WHAT IT READS IS OF BULK AT MOST 1048576: true; the input reads as it did. -/
def fnExactUsePermitUptoRow : OpenClaim := { program := "ytgeioccfjgpijaadoor", sum := "1cd053c53e1f615907b9574eddc7ceada700d54779fe32ecb2e3f0e04dc66944", func := "loop.example/g00933/laws.FnExactUsePermit", spec := "fnExactUsePermit", inPlace := ["internal/bytealg.IndexByteString", "internal/bytealg.IndexString"], unfollowed := true, recurses := true, named := ["unicode/utf8.first", "unicode/utf8.acceptRanges", "internal/bytealg.MaxLen"], apart := false, laid := [("unicode/utf8.acceptRanges", laid_unicode_utf8_acceptRanges), ("unicode/utf8.first", laid_unicode_utf8_first)], narrowed := true }
def FnExactUsePermitUptoSaid : Prop := fnExactUsePermitUptoRow.holds Tryd.pinned (OpenSpec.upto fnExactUsePermitSpec)

/-- 'laws.FnExactDecidePermit', WHERE WHAT IT READS IS OF BULK AT MOST 1048576: true; the input reads as it did. -/
def fnExactDecidePermitUptoRow : OpenClaim := { program := "ytgeioccfjgpijaadoor", sum := "1cd053c53e1f615907b9574eddc7ceada700d54779fe32ecb2e3f0e04dc66944", func := "loop.example/g00933/laws.FnExactDecidePermit", spec := "fnExactDecidePermit", inPlace := ["internal/bytealg.IndexByteString", "internal/bytealg.IndexString"], unfollowed := true, recurses := true, named := ["unicode/utf8.first", "unicode/utf8.acceptRanges", "internal/bytealg.MaxLen"], apart := false, laid := [("unicode/utf8.acceptRanges", laid_unicode_utf8_acceptRanges), ("unicode/utf8.first", laid_unicode_utf8_first)], narrowed := true }
def FnExactDecidePermitUptoSaid : Prop := fnExactDecidePermitUptoRow.holds Tryd.pinned (OpenSpec.upto fnExactDecidePermitSpec)

/-- 'laws.FnExactFreeDays', WHERE WHAT IT READS IS OF BULK AT MOST 1048576: true; the input reads as it did. -/
def fnExactFreeDaysUptoRow : OpenClaim := { program := "ytgeioccfjgpijaadoor", sum := "1cd053c53e1f615907b9574eddc7ceada700d54779fe32ecb2e3f0e04dc66944", func := "loop.example/g00933/laws.FnExactFreeDays", spec := "fnExactFreeDays", inPlace := ["internal/bytealg.IndexByteString", "internal/bytealg.IndexString"], unfollowed := true, recurses := true, named := ["unicode/utf8.first", "unicode/utf8.acceptRanges", "internal/bytealg.MaxLen"], apart := false, laid := [("unicode/utf8.acceptRanges", laid_unicode_utf8_acceptRanges), ("unicode/utf8.first", laid_unicode_utf8_first)], narrowed := true }
def FnExactFreeDaysUptoSaid : Prop := fnExactFreeDaysUptoRow.holds Tryd.pinned (OpenSpec.upto fnExactFreeDaysSpec)

/-- 'laws.FnPermits', WHERE WHAT IT READS IS OF BULK AT MOST 1048576: true; the input reads as it did. -/
def fnPermitsUptoRow : OpenClaim := { program := "ytgeioccfjgpijaadoor", sum := "1cd053c53e1f615907b9574eddc7ceada700d54779fe32ecb2e3f0e04dc66944", func := "loop.example/g00933/laws.FnPermits", spec := "fnPermits", inPlace := ["internal/bytealg.IndexByteString", "internal/bytealg.IndexString"], unfollowed := true, recurses := true, named := ["unicode/utf8.first", "unicode/utf8.acceptRanges", "internal/bytealg.MaxLen"], apart := false, laid := [("unicode/utf8.acceptRanges", laid_unicode_utf8_acceptRanges), ("unicode/utf8.first", laid_unicode_utf8_first)], narrowed := true }
def FnPermitsUptoSaid : Prop := fnPermitsUptoRow.holds Tryd.pinned (OpenSpec.upto fnPermitsSpec)

/-- 'laws.FnPermitDays', WHERE WHAT IT READS IS OF BULK AT MOST 1048576: true; the input reads as it did. -/
def fnPermitDaysUptoRow : OpenClaim := { program := "ytgeioccfjgpijaadoor", sum := "1cd053c53e1f615907b9574eddc7ceada700d54779fe32ecb2e3f0e04dc66944", func := "loop.example/g00933/laws.FnPermitDays", spec := "fnPermitDays", inPlace := ["internal/bytealg.IndexByteString", "internal/bytealg.IndexString"], unfollowed := true, recurses := true, named := ["unicode/utf8.first", "unicode/utf8.acceptRanges", "internal/bytealg.MaxLen"], apart := false, laid := [("unicode/utf8.acceptRanges", laid_unicode_utf8_acceptRanges), ("unicode/utf8.first", laid_unicode_utf8_first)], narrowed := true }
def FnPermitDaysUptoSaid : Prop := fnPermitDaysUptoRow.holds Tryd.pinned (OpenSpec.upto fnPermitDaysSpec)

end Rows
end Go.Proofs.YtgeioccfjgpijaaDoor

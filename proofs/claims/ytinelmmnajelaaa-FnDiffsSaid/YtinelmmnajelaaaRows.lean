/-
  No cell of these rows narrows 'for every input' (looked for: loops, veiled, ifaces, maps, wideKeys, modest, calm, conditions, laid).
  DERIVED. THE GIVEN ROWS OF THIS SEAT. 10 by the template 'for every input the law returns true; each argument reads behind the call as it read before'; 0 by the template 'total and deterministic' (their statements: YtinelmmnajelaaaTotals.lean).
  GIVEN WITH THE SEED: the statements are not yours to turn. If you find one false, say at which input.
  Laid BY PROGRAM, IN A SANDBOX (cutbox-rows.mjs): the forced cells as the released guide's own fill.sh prints them over the translation 2fa8a83a31fb146a… (all of the seat's roots in one cut). By AI agents, Wed Nov 11 2026. No macro, syntax, notation, axiom, sorry.
-/
import Derived.Test.YtinelmmnajelaaaChecked
import GoSem.Claim
import GoSem.ClaimJoined
import GoSem.ClaimMapViews
import Derived.JoinedTies
import Derived.KernelRfl
namespace Go.Proofs.Ytinelmmnajelaaa
/- THE CELL 'sum', in the pinned program and in every row, IS THE sha256 OF THE DUMP (.gsa) THAT YtinelmmnajelaaaProg.lean LOADS. Nothing in Lean hashes anything: it is a label: what it is worth is what the hold of that sum in a sandbox is worth. -/
noncomputable def Try.pinned : Pinned := { name := "ytinelmmnajelaaa", sum := "2fa8a83a31fb146abc12c2c78eaf041dbd91fab90793e5af53457b13ffcf8757", checked := Try.checked }
namespace Rows
def none {H : Type} : Left H := { results := [], args := [] }

/-- 'laws.FnExactInverseEdit': WHATEVER THE INPUT: true; the input reads as it did. -/
def fnExactInverseEditSpec : ChangeSpec := { name := "fnExactInverseEdit", fn := fun _ => fun
  | [d] => { results := [.lit (.bool true)], args := [d] }
  | _ => none }
def fnExactInverseEditRow : OpenClaim := { program := "ytinelmmnajelaaa", sum := "2fa8a83a31fb146abc12c2c78eaf041dbd91fab90793e5af53457b13ffcf8757", func := "loop.example/g00933/laws.FnExactInverseEdit", spec := "fnExactInverseEdit", apart := false }
def FnExactInverseEditSaid : Prop := fnExactInverseEditRow.holds Try.pinned (OpenSpec.ofChange fnExactInverseEditSpec)

/-- ITS FALSE NEIGHBOUR: 'it returns false'. Refute it at one input. -/
def fnExactInverseEditWrong : ChangeSpec := { name := "fnExactInverseEdit", fn := fun _ => fun
  | [d] => { results := [.lit (.bool false)], args := [d] }
  | _ => none }
def FnExactInverseEditWrongFalsely : Prop := fnExactInverseEditRow.holds Try.pinned (OpenSpec.ofChange fnExactInverseEditWrong)

/-- 'laws.FnExactDiffLegs': WHATEVER THE INPUT: true; the input reads as it did. -/
def fnExactDiffLegsSpec : ChangeSpec := { name := "fnExactDiffLegs", fn := fun _ => fun
  | [d1, d2] => { results := [.lit (.bool true)], args := [d1, d2] }
  | _ => none }
def fnExactDiffLegsRow : OpenClaim := { program := "ytinelmmnajelaaa", sum := "2fa8a83a31fb146abc12c2c78eaf041dbd91fab90793e5af53457b13ffcf8757", func := "loop.example/g00933/laws.FnExactDiffLegs", spec := "fnExactDiffLegs", apart := false }
def FnExactDiffLegsSaid : Prop := fnExactDiffLegsRow.holds Try.pinned (OpenSpec.ofChange fnExactDiffLegsSpec)

/-- ITS FALSE NEIGHBOUR: 'it returns false'. Refute it at one input. -/
def fnExactDiffLegsWrong : ChangeSpec := { name := "fnExactDiffLegs", fn := fun _ => fun
  | [d1, d2] => { results := [.lit (.bool false)], args := [d1, d2] }
  | _ => none }
def FnExactDiffLegsWrongFalsely : Prop := fnExactDiffLegsRow.holds Try.pinned (OpenSpec.ofChange fnExactDiffLegsWrong)

/-- 'laws.FnExactApplyEdit': WHATEVER THE INPUT: true; the input reads as it did. -/
def fnExactApplyEditSpec : ChangeSpec := { name := "fnExactApplyEdit", fn := fun _ => fun
  | [d1, d2] => { results := [.lit (.bool true)], args := [d1, d2] }
  | _ => none }
def fnExactApplyEditRow : OpenClaim := { program := "ytinelmmnajelaaa", sum := "2fa8a83a31fb146abc12c2c78eaf041dbd91fab90793e5af53457b13ffcf8757", func := "loop.example/g00933/laws.FnExactApplyEdit", spec := "fnExactApplyEdit", inPlace := ["slices.overlaps[loop.example/g00933/impl.Leg]"], apart := false }
def FnExactApplyEditSaid : Prop := fnExactApplyEditRow.holds Try.pinned (OpenSpec.ofChange fnExactApplyEditSpec)

/-- ITS FALSE NEIGHBOUR: 'it returns false'. Refute it at one input. -/
def fnExactApplyEditWrong : ChangeSpec := { name := "fnExactApplyEdit", fn := fun _ => fun
  | [d1, d2] => { results := [.lit (.bool false)], args := [d1, d2] }
  | _ => none }
def FnExactApplyEditWrongFalsely : Prop := fnExactApplyEditRow.holds Try.pinned (OpenSpec.ofChange fnExactApplyEditWrong)

/-- 'laws.FnExactIsHistory': WHATEVER THE INPUT: true; the input reads as it did. -/
def fnExactIsHistorySpec : ChangeSpec := { name := "fnExactIsHistory", fn := fun _ => fun
  | [d1, d2] => { results := [.lit (.bool true)], args := [d1, d2] }
  | _ => none }
def fnExactIsHistoryRow : OpenClaim := { program := "ytinelmmnajelaaa", sum := "2fa8a83a31fb146abc12c2c78eaf041dbd91fab90793e5af53457b13ffcf8757", func := "loop.example/g00933/laws.FnExactIsHistory", spec := "fnExactIsHistory", inPlace := ["slices.overlaps[loop.example/g00933/impl.Leg]"], apart := false }
def FnExactIsHistorySaid : Prop := fnExactIsHistoryRow.holds Try.pinned (OpenSpec.ofChange fnExactIsHistorySpec)

/-- ITS FALSE NEIGHBOUR: 'it returns false'. Refute it at one input. -/
def fnExactIsHistoryWrong : ChangeSpec := { name := "fnExactIsHistory", fn := fun _ => fun
  | [d1, d2] => { results := [.lit (.bool false)], args := [d1, d2] }
  | _ => none }
def FnExactIsHistoryWrongFalsely : Prop := fnExactIsHistoryRow.holds Try.pinned (OpenSpec.ofChange fnExactIsHistoryWrong)

/-- 'laws.FnExactVersionAt': WHATEVER THE INPUT: true; the input reads as it did. -/
def fnExactVersionAtSpec : ChangeSpec := { name := "fnExactVersionAt", fn := fun _ => fun
  | [d1, d2, d3] => { results := [.lit (.bool true)], args := [d1, d2, d3] }
  | _ => none }
def fnExactVersionAtRow : OpenClaim := { program := "ytinelmmnajelaaa", sum := "2fa8a83a31fb146abc12c2c78eaf041dbd91fab90793e5af53457b13ffcf8757", func := "loop.example/g00933/laws.FnExactVersionAt", spec := "fnExactVersionAt", inPlace := ["slices.overlaps[loop.example/g00933/impl.Leg]"], apart := false }
def FnExactVersionAtSaid : Prop := fnExactVersionAtRow.holds Try.pinned (OpenSpec.ofChange fnExactVersionAtSpec)

/-- ITS FALSE NEIGHBOUR: 'it returns false'. Refute it at one input. -/
def fnExactVersionAtWrong : ChangeSpec := { name := "fnExactVersionAt", fn := fun _ => fun
  | [d1, d2, d3] => { results := [.lit (.bool false)], args := [d1, d2, d3] }
  | _ => none }
def FnExactVersionAtWrongFalsely : Prop := fnExactVersionAtRow.holds Try.pinned (OpenSpec.ofChange fnExactVersionAtWrong)

/-- 'laws.FnExactEditsOn': WHATEVER THE INPUT: true; the input reads as it did. -/
def fnExactEditsOnSpec : ChangeSpec := { name := "fnExactEditsOn", fn := fun _ => fun
  | [d1, d2, d3] => { results := [.lit (.bool true)], args := [d1, d2, d3] }
  | _ => none }
def fnExactEditsOnRow : OpenClaim := { program := "ytinelmmnajelaaa", sum := "2fa8a83a31fb146abc12c2c78eaf041dbd91fab90793e5af53457b13ffcf8757", func := "loop.example/g00933/laws.FnExactEditsOn", spec := "fnExactEditsOn", inPlace := ["slices.overlaps[loop.example/g00933/impl.Leg]"], apart := false }
def FnExactEditsOnSaid : Prop := fnExactEditsOnRow.holds Try.pinned (OpenSpec.ofChange fnExactEditsOnSpec)

/-- ITS FALSE NEIGHBOUR: 'it returns false'. Refute it at one input. -/
def fnExactEditsOnWrong : ChangeSpec := { name := "fnExactEditsOn", fn := fun _ => fun
  | [d1, d2, d3] => { results := [.lit (.bool false)], args := [d1, d2, d3] }
  | _ => none }
def FnExactEditsOnWrongFalsely : Prop := fnExactEditsOnRow.holds Try.pinned (OpenSpec.ofChange fnExactEditsOnWrong)

/-- 'laws.FnExactSameVersions': WHATEVER THE INPUT: true; the input reads as it did. -/
def fnExactSameVersionsSpec : ChangeSpec := { name := "fnExactSameVersions", fn := fun _ => fun
  | [d1, d2] => { results := [.lit (.bool true)], args := [d1, d2] }
  | _ => none }
def fnExactSameVersionsRow : OpenClaim := { program := "ytinelmmnajelaaa", sum := "2fa8a83a31fb146abc12c2c78eaf041dbd91fab90793e5af53457b13ffcf8757", func := "loop.example/g00933/laws.FnExactSameVersions", spec := "fnExactSameVersions", inPlace := ["slices.overlaps[loop.example/g00933/impl.Leg]"], apart := false }
def FnExactSameVersionsSaid : Prop := fnExactSameVersionsRow.holds Try.pinned (OpenSpec.ofChange fnExactSameVersionsSpec)

/-- ITS FALSE NEIGHBOUR: 'it returns false'. Refute it at one input. -/
def fnExactSameVersionsWrong : ChangeSpec := { name := "fnExactSameVersions", fn := fun _ => fun
  | [d1, d2] => { results := [.lit (.bool false)], args := [d1, d2] }
  | _ => none }
def FnExactSameVersionsWrongFalsely : Prop := fnExactSameVersionsRow.holds Try.pinned (OpenSpec.ofChange fnExactSameVersionsWrong)

/-- 'laws.FnExactUndoEdits': WHATEVER THE INPUT: true; the input reads as it did. -/
def fnExactUndoEditsSpec : ChangeSpec := { name := "fnExactUndoEdits", fn := fun _ => fun
  | [d1, d2, d3] => { results := [.lit (.bool true)], args := [d1, d2, d3] }
  | _ => none }
def fnExactUndoEditsRow : OpenClaim := { program := "ytinelmmnajelaaa", sum := "2fa8a83a31fb146abc12c2c78eaf041dbd91fab90793e5af53457b13ffcf8757", func := "loop.example/g00933/laws.FnExactUndoEdits", spec := "fnExactUndoEdits", inPlace := ["slices.overlaps[loop.example/g00933/impl.Leg]"], unfollowed := true, recurses := true, apart := false }
def FnExactUndoEditsSaid : Prop := fnExactUndoEditsRow.holds Try.pinned (OpenSpec.ofChange fnExactUndoEditsSpec)

/-- ITS FALSE NEIGHBOUR: 'it returns false'. Refute it at one input. -/
def fnExactUndoEditsWrong : ChangeSpec := { name := "fnExactUndoEdits", fn := fun _ => fun
  | [d1, d2, d3] => { results := [.lit (.bool false)], args := [d1, d2, d3] }
  | _ => none }
def FnExactUndoEditsWrongFalsely : Prop := fnExactUndoEditsRow.holds Try.pinned (OpenSpec.ofChange fnExactUndoEditsWrong)

/-- 'laws.FnVersions': WHATEVER THE INPUT: true; the input reads as it did. -/
def fnVersionsSpec : ChangeSpec := { name := "fnVersions", fn := fun _ => fun
  | [d] => { results := [.lit (.bool true)], args := [d] }
  | _ => none }
def fnVersionsRow : OpenClaim := { program := "ytinelmmnajelaaa", sum := "2fa8a83a31fb146abc12c2c78eaf041dbd91fab90793e5af53457b13ffcf8757", func := "loop.example/g00933/laws.FnVersions", spec := "fnVersions", inPlace := ["slices.overlaps[loop.example/g00933/impl.Leg]"], unfollowed := true, recurses := true, apart := false }
def FnVersionsSaid : Prop := fnVersionsRow.holds Try.pinned (OpenSpec.ofChange fnVersionsSpec)

/-- ITS FALSE NEIGHBOUR: 'it returns false'. Refute it at one input. -/
def fnVersionsWrong : ChangeSpec := { name := "fnVersions", fn := fun _ => fun
  | [d] => { results := [.lit (.bool false)], args := [d] }
  | _ => none }
def FnVersionsWrongFalsely : Prop := fnVersionsRow.holds Try.pinned (OpenSpec.ofChange fnVersionsWrong)

/-- 'laws.FnDiffs': WHATEVER THE INPUT: true; the input reads as it did. -/
def fnDiffsSpec : ChangeSpec := { name := "fnDiffs", fn := fun _ => fun
  | [d] => { results := [.lit (.bool true)], args := [d] }
  | _ => none }
def fnDiffsRow : OpenClaim := { program := "ytinelmmnajelaaa", sum := "2fa8a83a31fb146abc12c2c78eaf041dbd91fab90793e5af53457b13ffcf8757", func := "loop.example/g00933/laws.FnDiffs", spec := "fnDiffs", inPlace := ["slices.overlaps[loop.example/g00933/impl.Leg]"], apart := false }
def FnDiffsSaid : Prop := fnDiffsRow.holds Try.pinned (OpenSpec.ofChange fnDiffsSpec)

/-- ITS FALSE NEIGHBOUR: 'it returns false'. Refute it at one input. -/
def fnDiffsWrong : ChangeSpec := { name := "fnDiffs", fn := fun _ => fun
  | [d] => { results := [.lit (.bool false)], args := [d] }
  | _ => none }
def FnDiffsWrongFalsely : Prop := fnDiffsRow.holds Try.pinned (OpenSpec.ofChange fnDiffsWrong)

/- THE SECOND FORM. 'bulk': how many values and letters a reading holds, each counted each time it is reached (what is shared counts as often as it is met; a slice's spare places count too). A statement '..UptoSaid' is the law's where the arguments, and the package variables that the reading takes, are together of bulk at most 1048576: NARROWER than '..Said'. Prove '..Said' where nothing that the law and all that it calls make is longer than what came in: it says more and counts as full. Else prove '..UptoSaid'. A law counts once. -/
mutual
def uptoBulk {H : Type} : DataW H → Nat
  | .lit (.string bytes) => bytes.length + 1
  | .lit _ => 1
  | .nil => 1
  | .ptr d => uptoBulk d + 1
  | .slice elems spare => uptoBulkAll elems + uptoBulkAll spare + 1
  | .agg parts => uptoBulkAll parts + 1
  | .iface _ d => uptoBulk d + 1
  | .map entries => uptoBulkEntries entries + 1
  | .held _ => 1
def uptoBulkAll {H : Type} : List (DataW H) → Nat
  | [] => 0
  | d :: r => uptoBulk d + uptoBulkAll r
def uptoBulkEntries {H : Type} : List (Lit × DataW H) → Nat
  | [] => 0
  | x :: r => uptoBulkEntry x + uptoBulkEntries r
def uptoBulkEntry {H : Type} : Lit × DataW H → Nat
  | (.string bytes, d) => bytes.length + uptoBulk d + 1
  | (_, d) => uptoBulk d + 1
 end
def uptoSmall : (H : Type) → List (DataW H) → Bool := fun _ ds => decide (uptoBulkAll ds ≤ 1048576)
def OpenSpec.upto (s : _root_.Go.ChangeSpec) : _root_.Go.OpenSpec := { _root_.Go.OpenSpec.ofChange s with cond := some uptoSmall }

/-- 'laws.FnExactInverseEdit', WHERE WHAT IT READS IS OF BULK AT MOST 1048576: true; the input reads as it did. -/
def fnExactInverseEditUptoRow : OpenClaim := { program := "ytinelmmnajelaaa", sum := "2fa8a83a31fb146abc12c2c78eaf041dbd91fab90793e5af53457b13ffcf8757", func := "loop.example/g00933/laws.FnExactInverseEdit", spec := "fnExactInverseEdit", apart := false, narrowed := true }
def FnExactInverseEditUptoSaid : Prop := fnExactInverseEditUptoRow.holds Try.pinned (OpenSpec.upto fnExactInverseEditSpec)

/-- 'laws.FnExactDiffLegs', WHERE WHAT IT READS IS OF BULK AT MOST 1048576: true; the input reads as it did. -/
def fnExactDiffLegsUptoRow : OpenClaim := { program := "ytinelmmnajelaaa", sum := "2fa8a83a31fb146abc12c2c78eaf041dbd91fab90793e5af53457b13ffcf8757", func := "loop.example/g00933/laws.FnExactDiffLegs", spec := "fnExactDiffLegs", apart := false, narrowed := true }
def FnExactDiffLegsUptoSaid : Prop := fnExactDiffLegsUptoRow.holds Try.pinned (OpenSpec.upto fnExactDiffLegsSpec)

/-- 'laws.FnExactApplyEdit', WHERE WHAT IT READS IS OF BULK AT MOST 1048576: true; the input reads as it did. -/
def fnExactApplyEditUptoRow : OpenClaim := { program := "ytinelmmnajelaaa", sum := "2fa8a83a31fb146abc12c2c78eaf041dbd91fab90793e5af53457b13ffcf8757", func := "loop.example/g00933/laws.FnExactApplyEdit", spec := "fnExactApplyEdit", inPlace := ["slices.overlaps[loop.example/g00933/impl.Leg]"], apart := false, narrowed := true }
def FnExactApplyEditUptoSaid : Prop := fnExactApplyEditUptoRow.holds Try.pinned (OpenSpec.upto fnExactApplyEditSpec)

/-- 'laws.FnExactIsHistory', WHERE WHAT IT READS IS OF BULK AT MOST 1048576: true; the input reads as it did. -/
def fnExactIsHistoryUptoRow : OpenClaim := { program := "ytinelmmnajelaaa", sum := "2fa8a83a31fb146abc12c2c78eaf041dbd91fab90793e5af53457b13ffcf8757", func := "loop.example/g00933/laws.FnExactIsHistory", spec := "fnExactIsHistory", inPlace := ["slices.overlaps[loop.example/g00933/impl.Leg]"], apart := false, narrowed := true }
def FnExactIsHistoryUptoSaid : Prop := fnExactIsHistoryUptoRow.holds Try.pinned (OpenSpec.upto fnExactIsHistorySpec)

/-- 'laws.FnExactVersionAt', WHERE WHAT IT READS IS OF BULK AT MOST 1048576: true; the input reads as it did. -/
def fnExactVersionAtUptoRow : OpenClaim := { program := "ytinelmmnajelaaa", sum := "2fa8a83a31fb146abc12c2c78eaf041dbd91fab90793e5af53457b13ffcf8757", func := "loop.example/g00933/laws.FnExactVersionAt", spec := "fnExactVersionAt", inPlace := ["slices.overlaps[loop.example/g00933/impl.Leg]"], apart := false, narrowed := true }
def FnExactVersionAtUptoSaid : Prop := fnExactVersionAtUptoRow.holds Try.pinned (OpenSpec.upto fnExactVersionAtSpec)

/-- 'laws.FnExactEditsOn', WHERE WHAT IT READS IS OF BULK AT MOST 1048576: true; the input reads as it did. -/
def fnExactEditsOnUptoRow : OpenClaim := { program := "ytinelmmnajelaaa", sum := "2fa8a83a31fb146abc12c2c78eaf041dbd91fab90793e5af53457b13ffcf8757", func := "loop.example/g00933/laws.FnExactEditsOn", spec := "fnExactEditsOn", inPlace := ["slices.overlaps[loop.example/g00933/impl.Leg]"], apart := false, narrowed := true }
def FnExactEditsOnUptoSaid : Prop := fnExactEditsOnUptoRow.holds Try.pinned (OpenSpec.upto fnExactEditsOnSpec)

/-- 'laws.FnExactSameVersions', WHERE WHAT IT READS IS OF BULK AT MOST 1048576: true; the input reads as it did. -/
def fnExactSameVersionsUptoRow : OpenClaim := { program := "ytinelmmnajelaaa", sum := "2fa8a83a31fb146abc12c2c78eaf041dbd91fab90793e5af53457b13ffcf8757", func := "loop.example/g00933/laws.FnExactSameVersions", spec := "fnExactSameVersions", inPlace := ["slices.overlaps[loop.example/g00933/impl.Leg]"], apart := false, narrowed := true }
def FnExactSameVersionsUptoSaid : Prop := fnExactSameVersionsUptoRow.holds Try.pinned (OpenSpec.upto fnExactSameVersionsSpec)

/-- 'laws.FnExactUndoEdits', WHERE WHAT IT READS IS OF BULK AT MOST 1048576: true; the input reads as it did. -/
def fnExactUndoEditsUptoRow : OpenClaim := { program := "ytinelmmnajelaaa", sum := "2fa8a83a31fb146abc12c2c78eaf041dbd91fab90793e5af53457b13ffcf8757", func := "loop.example/g00933/laws.FnExactUndoEdits", spec := "fnExactUndoEdits", inPlace := ["slices.overlaps[loop.example/g00933/impl.Leg]"], unfollowed := true, recurses := true, apart := false, narrowed := true }
def FnExactUndoEditsUptoSaid : Prop := fnExactUndoEditsUptoRow.holds Try.pinned (OpenSpec.upto fnExactUndoEditsSpec)

/-- 'laws.FnVersions', WHERE WHAT IT READS IS OF BULK AT MOST 1048576: true; the input reads as it did. -/
def fnVersionsUptoRow : OpenClaim := { program := "ytinelmmnajelaaa", sum := "2fa8a83a31fb146abc12c2c78eaf041dbd91fab90793e5af53457b13ffcf8757", func := "loop.example/g00933/laws.FnVersions", spec := "fnVersions", inPlace := ["slices.overlaps[loop.example/g00933/impl.Leg]"], unfollowed := true, recurses := true, apart := false, narrowed := true }
def FnVersionsUptoSaid : Prop := fnVersionsUptoRow.holds Try.pinned (OpenSpec.upto fnVersionsSpec)

/-- 'laws.FnDiffs', WHERE WHAT IT READS IS OF BULK AT MOST 1048576: true; the input reads as it did. -/
def fnDiffsUptoRow : OpenClaim := { program := "ytinelmmnajelaaa", sum := "2fa8a83a31fb146abc12c2c78eaf041dbd91fab90793e5af53457b13ffcf8757", func := "loop.example/g00933/laws.FnDiffs", spec := "fnDiffs", inPlace := ["slices.overlaps[loop.example/g00933/impl.Leg]"], apart := false, narrowed := true }
def FnDiffsUptoSaid : Prop := fnDiffsUptoRow.holds Try.pinned (OpenSpec.upto fnDiffsSpec)

end Rows
end Go.Proofs.Ytinelmmnajelaaa

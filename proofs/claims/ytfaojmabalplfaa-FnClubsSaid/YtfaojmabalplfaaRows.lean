/-
  No cell of these rows narrows 'for every input' (looked for: loops, veiled, ifaces, maps, wideKeys, modest, calm, conditions, laid).
  DERIVED. THE GIVEN ROWS OF THIS SEAT. 11 by the template 'for every input the law returns true; each argument reads behind the call as it read before'; 0 by the template 'total and deterministic' (their statements: YtfaojmabalplfaaTotals.lean).
  GIVEN WITH THE SEED: the statements are not yours to turn. If you find one false, say at which input.
  Laid BY PROGRAM, IN A SANDBOX (cutbox-rows.mjs): the forced cells as the released guide's own fill.sh prints them over the translation 05aa77b7e40e21c6… (all of the seat's roots in one cut). By AI agents, Wed Nov 11 2026. No macro, syntax, notation, axiom, sorry.
-/
import Derived.Test.YtfaojmabalplfaaChecked
import GoSem.Claim
import GoSem.ClaimJoined
import GoSem.ClaimMapViews
import Derived.JoinedTies
import Derived.KernelRfl
namespace Go.Proofs.Ytfaojmabalplfaa
/- THE CELL 'sum', in the pinned program and in every row, IS THE sha256 OF THE DUMP (.gsa) THAT YtfaojmabalplfaaProg.lean LOADS. Nothing in Lean hashes anything: it is a label: what it is worth is what the hold of that sum in a sandbox is worth. -/
noncomputable def Try.pinned : Pinned := { name := "ytfaojmabalplfaa", sum := "05aa77b7e40e21c694002a3eaea7a9afd9f2ef5f58fe76e435d4cddec85e8f81", checked := Try.checked }
namespace Rows
def none {H : Type} : Left H := { results := [], args := [] }

/-- 'laws.FnExactIsRenaming': WHATEVER THE INPUT: true; the input reads as it did. -/
def fnExactIsRenamingSpec : ChangeSpec := { name := "fnExactIsRenaming", fn := fun _ => fun
  | [d] => { results := [.lit (.bool true)], args := [d] }
  | _ => none }
def fnExactIsRenamingRow : OpenClaim := { program := "ytfaojmabalplfaa", sum := "05aa77b7e40e21c694002a3eaea7a9afd9f2ef5f58fe76e435d4cddec85e8f81", func := "loop.example/g00933/laws.FnExactIsRenaming", spec := "fnExactIsRenaming", apart := false }
def FnExactIsRenamingSaid : Prop := fnExactIsRenamingRow.holds Try.pinned (OpenSpec.ofChange fnExactIsRenamingSpec)

/-- ITS FALSE NEIGHBOUR: 'it returns false'. Refute it at one input. -/
def fnExactIsRenamingWrong : ChangeSpec := { name := "fnExactIsRenaming", fn := fun _ => fun
  | [d] => { results := [.lit (.bool false)], args := [d] }
  | _ => none }
def FnExactIsRenamingWrongFalsely : Prop := fnExactIsRenamingRow.holds Try.pinned (OpenSpec.ofChange fnExactIsRenamingWrong)

/-- 'laws.FnExactInverseRenaming': WHATEVER THE INPUT: true; the input reads as it did. -/
def fnExactInverseRenamingSpec : ChangeSpec := { name := "fnExactInverseRenaming", fn := fun _ => fun
  | [d] => { results := [.lit (.bool true)], args := [d] }
  | _ => none }
def fnExactInverseRenamingRow : OpenClaim := { program := "ytfaojmabalplfaa", sum := "05aa77b7e40e21c694002a3eaea7a9afd9f2ef5f58fe76e435d4cddec85e8f81", func := "loop.example/g00933/laws.FnExactInverseRenaming", spec := "fnExactInverseRenaming", apart := false }
def FnExactInverseRenamingSaid : Prop := fnExactInverseRenamingRow.holds Try.pinned (OpenSpec.ofChange fnExactInverseRenamingSpec)

/-- ITS FALSE NEIGHBOUR: 'it returns false'. Refute it at one input. -/
def fnExactInverseRenamingWrong : ChangeSpec := { name := "fnExactInverseRenaming", fn := fun _ => fun
  | [d] => { results := [.lit (.bool false)], args := [d] }
  | _ => none }
def FnExactInverseRenamingWrongFalsely : Prop := fnExactInverseRenamingRow.holds Try.pinned (OpenSpec.ofChange fnExactInverseRenamingWrong)

/-- 'laws.FnExactThenRenaming': WHATEVER THE INPUT: true; the input reads as it did. -/
def fnExactThenRenamingSpec : ChangeSpec := { name := "fnExactThenRenaming", fn := fun _ => fun
  | [d1, d2] => { results := [.lit (.bool true)], args := [d1, d2] }
  | _ => none }
def fnExactThenRenamingRow : OpenClaim := { program := "ytfaojmabalplfaa", sum := "05aa77b7e40e21c694002a3eaea7a9afd9f2ef5f58fe76e435d4cddec85e8f81", func := "loop.example/g00933/laws.FnExactThenRenaming", spec := "fnExactThenRenaming", apart := false }
def FnExactThenRenamingSaid : Prop := fnExactThenRenamingRow.holds Try.pinned (OpenSpec.ofChange fnExactThenRenamingSpec)

/-- ITS FALSE NEIGHBOUR: 'it returns false'. Refute it at one input. -/
def fnExactThenRenamingWrong : ChangeSpec := { name := "fnExactThenRenaming", fn := fun _ => fun
  | [d1, d2] => { results := [.lit (.bool false)], args := [d1, d2] }
  | _ => none }
def FnExactThenRenamingWrongFalsely : Prop := fnExactThenRenamingRow.holds Try.pinned (OpenSpec.ofChange fnExactThenRenamingWrong)

/-- 'laws.FnExactSharedLegs': WHATEVER THE INPUT: true; the input reads as it did. -/
def fnExactSharedLegsSpec : ChangeSpec := { name := "fnExactSharedLegs", fn := fun _ => fun
  | [d1, d2] => { results := [.lit (.bool true)], args := [d1, d2] }
  | _ => none }
def fnExactSharedLegsRow : OpenClaim := { program := "ytfaojmabalplfaa", sum := "05aa77b7e40e21c694002a3eaea7a9afd9f2ef5f58fe76e435d4cddec85e8f81", func := "loop.example/g00933/laws.FnExactSharedLegs", spec := "fnExactSharedLegs", unfollowed := true, recurses := true, apart := false }
def FnExactSharedLegsSaid : Prop := fnExactSharedLegsRow.holds Try.pinned (OpenSpec.ofChange fnExactSharedLegsSpec)

/-- ITS FALSE NEIGHBOUR: 'it returns false'. Refute it at one input. -/
def fnExactSharedLegsWrong : ChangeSpec := { name := "fnExactSharedLegs", fn := fun _ => fun
  | [d1, d2] => { results := [.lit (.bool false)], args := [d1, d2] }
  | _ => none }
def FnExactSharedLegsWrongFalsely : Prop := fnExactSharedLegsRow.holds Try.pinned (OpenSpec.ofChange fnExactSharedLegsWrong)

/-- 'laws.FnExactMergeLegs': WHATEVER THE INPUT: true; the input reads as it did. -/
def fnExactMergeLegsSpec : ChangeSpec := { name := "fnExactMergeLegs", fn := fun _ => fun
  | [d1, d2] => { results := [.lit (.bool true)], args := [d1, d2] }
  | _ => none }
def fnExactMergeLegsRow : OpenClaim := { program := "ytfaojmabalplfaa", sum := "05aa77b7e40e21c694002a3eaea7a9afd9f2ef5f58fe76e435d4cddec85e8f81", func := "loop.example/g00933/laws.FnExactMergeLegs", spec := "fnExactMergeLegs", unfollowed := true, recurses := true, apart := false }
def FnExactMergeLegsSaid : Prop := fnExactMergeLegsRow.holds Try.pinned (OpenSpec.ofChange fnExactMergeLegsSpec)

/-- ITS FALSE NEIGHBOUR: 'it returns false'. Refute it at one input. -/
def fnExactMergeLegsWrong : ChangeSpec := { name := "fnExactMergeLegs", fn := fun _ => fun
  | [d1, d2] => { results := [.lit (.bool false)], args := [d1, d2] }
  | _ => none }
def FnExactMergeLegsWrongFalsely : Prop := fnExactMergeLegsRow.holds Try.pinned (OpenSpec.ofChange fnExactMergeLegsWrong)

/-- 'laws.FnExactRenameLegs': WHATEVER THE INPUT: true; the input reads as it did. -/
def fnExactRenameLegsSpec : ChangeSpec := { name := "fnExactRenameLegs", fn := fun _ => fun
  | [d1, d2] => { results := [.lit (.bool true)], args := [d1, d2] }
  | _ => none }
def fnExactRenameLegsRow : OpenClaim := { program := "ytfaojmabalplfaa", sum := "05aa77b7e40e21c694002a3eaea7a9afd9f2ef5f58fe76e435d4cddec85e8f81", func := "loop.example/g00933/laws.FnExactRenameLegs", spec := "fnExactRenameLegs", apart := false }
def FnExactRenameLegsSaid : Prop := fnExactRenameLegsRow.holds Try.pinned (OpenSpec.ofChange fnExactRenameLegsSpec)

/-- ITS FALSE NEIGHBOUR: 'it returns false'. Refute it at one input. -/
def fnExactRenameLegsWrong : ChangeSpec := { name := "fnExactRenameLegs", fn := fun _ => fun
  | [d1, d2] => { results := [.lit (.bool false)], args := [d1, d2] }
  | _ => none }
def FnExactRenameLegsWrongFalsely : Prop := fnExactRenameLegsRow.holds Try.pinned (OpenSpec.ofChange fnExactRenameLegsWrong)

/-- 'laws.FnExactConflictLegs': WHATEVER THE INPUT: true; the input reads as it did. -/
def fnExactConflictLegsSpec : ChangeSpec := { name := "fnExactConflictLegs", fn := fun _ => fun
  | [d1, d2, d3, d4] => { results := [.lit (.bool true)], args := [d1, d2, d3, d4] }
  | _ => none }
def fnExactConflictLegsRow : OpenClaim := { program := "ytfaojmabalplfaa", sum := "05aa77b7e40e21c694002a3eaea7a9afd9f2ef5f58fe76e435d4cddec85e8f81", func := "loop.example/g00933/laws.FnExactConflictLegs", spec := "fnExactConflictLegs", unfollowed := true, recurses := true, apart := false }
def FnExactConflictLegsSaid : Prop := fnExactConflictLegsRow.holds Try.pinned (OpenSpec.ofChange fnExactConflictLegsSpec)

/-- ITS FALSE NEIGHBOUR: 'it returns false'. Refute it at one input. -/
def fnExactConflictLegsWrong : ChangeSpec := { name := "fnExactConflictLegs", fn := fun _ => fun
  | [d1, d2, d3, d4] => { results := [.lit (.bool false)], args := [d1, d2, d3, d4] }
  | _ => none }
def FnExactConflictLegsWrongFalsely : Prop := fnExactConflictLegsRow.holds Try.pinned (OpenSpec.ofChange fnExactConflictLegsWrong)

/-- 'laws.FnExactMatchScore': WHATEVER THE INPUT: true; the input reads as it did. -/
def fnExactMatchScoreSpec : ChangeSpec := { name := "fnExactMatchScore", fn := fun _ => fun
  | [d1, d2, d3] => { results := [.lit (.bool true)], args := [d1, d2, d3] }
  | _ => none }
def fnExactMatchScoreRow : OpenClaim := { program := "ytfaojmabalplfaa", sum := "05aa77b7e40e21c694002a3eaea7a9afd9f2ef5f58fe76e435d4cddec85e8f81", func := "loop.example/g00933/laws.FnExactMatchScore", spec := "fnExactMatchScore", unfollowed := true, recurses := true, apart := false }
def FnExactMatchScoreSaid : Prop := fnExactMatchScoreRow.holds Try.pinned (OpenSpec.ofChange fnExactMatchScoreSpec)

/-- ITS FALSE NEIGHBOUR: 'it returns false'. Refute it at one input. -/
def fnExactMatchScoreWrong : ChangeSpec := { name := "fnExactMatchScore", fn := fun _ => fun
  | [d1, d2, d3] => { results := [.lit (.bool false)], args := [d1, d2, d3] }
  | _ => none }
def FnExactMatchScoreWrongFalsely : Prop := fnExactMatchScoreRow.holds Try.pinned (OpenSpec.ofChange fnExactMatchScoreWrong)

/-- 'laws.FnExactImproveRenaming': WHATEVER THE INPUT: true; the input reads as it did. -/
def fnExactImproveRenamingSpec : ChangeSpec := { name := "fnExactImproveRenaming", fn := fun _ => fun
  | [d1, d2, d3] => { results := [.lit (.bool true)], args := [d1, d2, d3] }
  | _ => none }
def fnExactImproveRenamingRow : OpenClaim := { program := "ytfaojmabalplfaa", sum := "05aa77b7e40e21c694002a3eaea7a9afd9f2ef5f58fe76e435d4cddec85e8f81", func := "loop.example/g00933/laws.FnExactImproveRenaming", spec := "fnExactImproveRenaming", unfollowed := true, recurses := true, apart := false }
def FnExactImproveRenamingSaid : Prop := fnExactImproveRenamingRow.holds Try.pinned (OpenSpec.ofChange fnExactImproveRenamingSpec)

/-- ITS FALSE NEIGHBOUR: 'it returns false'. Refute it at one input. -/
def fnExactImproveRenamingWrong : ChangeSpec := { name := "fnExactImproveRenaming", fn := fun _ => fun
  | [d1, d2, d3] => { results := [.lit (.bool false)], args := [d1, d2, d3] }
  | _ => none }
def FnExactImproveRenamingWrongFalsely : Prop := fnExactImproveRenamingRow.holds Try.pinned (OpenSpec.ofChange fnExactImproveRenamingWrong)

/-- 'laws.FnRenamings': WHATEVER THE INPUT: true; the input reads as it did. -/
def fnRenamingsSpec : ChangeSpec := { name := "fnRenamings", fn := fun _ => fun
  | [d] => { results := [.lit (.bool true)], args := [d] }
  | _ => none }
def fnRenamingsRow : OpenClaim := { program := "ytfaojmabalplfaa", sum := "05aa77b7e40e21c694002a3eaea7a9afd9f2ef5f58fe76e435d4cddec85e8f81", func := "loop.example/g00933/laws.FnRenamings", spec := "fnRenamings", unfollowed := true, recurses := true, apart := false }
def FnRenamingsSaid : Prop := fnRenamingsRow.holds Try.pinned (OpenSpec.ofChange fnRenamingsSpec)

/-- ITS FALSE NEIGHBOUR: 'it returns false'. Refute it at one input. -/
def fnRenamingsWrong : ChangeSpec := { name := "fnRenamings", fn := fun _ => fun
  | [d] => { results := [.lit (.bool false)], args := [d] }
  | _ => none }
def FnRenamingsWrongFalsely : Prop := fnRenamingsRow.holds Try.pinned (OpenSpec.ofChange fnRenamingsWrong)

/-- 'laws.FnClubs': WHATEVER THE INPUT: true; the input reads as it did. -/
def fnClubsSpec : ChangeSpec := { name := "fnClubs", fn := fun _ => fun
  | [d] => { results := [.lit (.bool true)], args := [d] }
  | _ => none }
def fnClubsRow : OpenClaim := { program := "ytfaojmabalplfaa", sum := "05aa77b7e40e21c694002a3eaea7a9afd9f2ef5f58fe76e435d4cddec85e8f81", func := "loop.example/g00933/laws.FnClubs", spec := "fnClubs", unfollowed := true, recurses := true, apart := false }
def FnClubsSaid : Prop := fnClubsRow.holds Try.pinned (OpenSpec.ofChange fnClubsSpec)

/-- ITS FALSE NEIGHBOUR: 'it returns false'. Refute it at one input. -/
def fnClubsWrong : ChangeSpec := { name := "fnClubs", fn := fun _ => fun
  | [d] => { results := [.lit (.bool false)], args := [d] }
  | _ => none }
def FnClubsWrongFalsely : Prop := fnClubsRow.holds Try.pinned (OpenSpec.ofChange fnClubsWrong)

/- THE SECOND FORM. 'bulk': how many values and letters a reading holds, each counted each time it is reached (what is shared counts as often as it is met; a slice's spare places count too). A statement '..UptoSaid' is the law's where the arguments, and the package variables that the reading takes, are together of bulk at most 1048576: NARROWER than '..Said'. Prove '..Said' where nothing that the law and all that it calls make is longer than what came in: it says more and counts as full. Else prove '..UptoSaid'. A law counts once. -/
mutual
def uptoBulk {H : Type} : DataW H → Nat
  | .lit (.string bytes) => bytes.length + 1
  | .lit _ => 1
  | .nil => 1
  | .ptr d => uptoBulk d + 1
  | .slice elems spare => uptoBulkAll elems + uptoBulkAll spare + 1
  | .agg parts => uptoBulkAll parts + 1
  | .iface _ d => uptoBulk d + 1
  | .map entries => uptoBulkEntries entries + 1
  | .held _ => 1
def uptoBulkAll {H : Type} : List (DataW H) → Nat
  | [] => 0
  | d :: r => uptoBulk d + uptoBulkAll r
def uptoBulkEntries {H : Type} : List (Lit × DataW H) → Nat
  | [] => 0
  | x :: r => uptoBulkEntry x + uptoBulkEntries r
def uptoBulkEntry {H : Type} : Lit × DataW H → Nat
  | (.string bytes, d) => bytes.length + uptoBulk d + 1
  | (_, d) => uptoBulk d + 1
 end
def uptoSmall : (H : Type) → List (DataW H) → Bool := fun _ ds => decide (uptoBulkAll ds ≤ 1048576)
def OpenSpec.upto (s : _root_.Go.ChangeSpec) : _root_.Go.OpenSpec := { _root_.Go.OpenSpec.ofChange s with cond := some uptoSmall }

/-- 'laws.FnExactIsRenaming', WHERE WHAT IT READS IS OF BULK AT MOST 1048576: true; the input reads as it did. -/
def fnExactIsRenamingUptoRow : OpenClaim := { program := "ytfaojmabalplfaa", sum := "05aa77b7e40e21c694002a3eaea7a9afd9f2ef5f58fe76e435d4cddec85e8f81", func := "loop.example/g00933/laws.FnExactIsRenaming", spec := "fnExactIsRenaming", apart := false, narrowed := true }
def FnExactIsRenamingUptoSaid : Prop := fnExactIsRenamingUptoRow.holds Try.pinned (OpenSpec.upto fnExactIsRenamingSpec)

/-- 'laws.FnExactInverseRenaming', WHERE WHAT IT READS IS OF BULK AT MOST 1048576: true; the input reads as it did. -/
def fnExactInverseRenamingUptoRow : OpenClaim := { program := "ytfaojmabalplfaa", sum := "05aa77b7e40e21c694002a3eaea7a9afd9f2ef5f58fe76e435d4cddec85e8f81", func := "loop.example/g00933/laws.FnExactInverseRenaming", spec := "fnExactInverseRenaming", apart := false, narrowed := true }
def FnExactInverseRenamingUptoSaid : Prop := fnExactInverseRenamingUptoRow.holds Try.pinned (OpenSpec.upto fnExactInverseRenamingSpec)

/-- 'laws.FnExactThenRenaming', WHERE WHAT IT READS IS OF BULK AT MOST 1048576: true; the input reads as it did. -/
def fnExactThenRenamingUptoRow : OpenClaim := { program := "ytfaojmabalplfaa", sum := "05aa77b7e40e21c694002a3eaea7a9afd9f2ef5f58fe76e435d4cddec85e8f81", func := "loop.example/g00933/laws.FnExactThenRenaming", spec := "fnExactThenRenaming", apart := false, narrowed := true }
def FnExactThenRenamingUptoSaid : Prop := fnExactThenRenamingUptoRow.holds Try.pinned (OpenSpec.upto fnExactThenRenamingSpec)

/-- 'laws.FnExactSharedLegs', WHERE WHAT IT READS IS OF BULK AT MOST 1048576: true; the input reads as it did. -/
def fnExactSharedLegsUptoRow : OpenClaim := { program := "ytfaojmabalplfaa", sum := "05aa77b7e40e21c694002a3eaea7a9afd9f2ef5f58fe76e435d4cddec85e8f81", func := "loop.example/g00933/laws.FnExactSharedLegs", spec := "fnExactSharedLegs", unfollowed := true, recurses := true, apart := false, narrowed := true }
def FnExactSharedLegsUptoSaid : Prop := fnExactSharedLegsUptoRow.holds Try.pinned (OpenSpec.upto fnExactSharedLegsSpec)

/-- 'laws.FnExactMergeLegs', WHERE WHAT IT READS IS OF BULK AT MOST 1048576: true; the input reads as it did. -/
def fnExactMergeLegsUptoRow : OpenClaim := { program := "ytfaojmabalplfaa", sum := "05aa77b7e40e21c694002a3eaea7a9afd9f2ef5f58fe76e435d4cddec85e8f81", func := "loop.example/g00933/laws.FnExactMergeLegs", spec := "fnExactMergeLegs", unfollowed := true, recurses := true, apart := false, narrowed := true }
def FnExactMergeLegsUptoSaid : Prop := fnExactMergeLegsUptoRow.holds Try.pinned (OpenSpec.upto fnExactMergeLegsSpec)

/-- 'laws.FnExactRenameLegs', WHERE WHAT IT READS IS OF BULK AT MOST 1048576: true; the input reads as it did. -/
def fnExactRenameLegsUptoRow : OpenClaim := { program := "ytfaojmabalplfaa", sum := "05aa77b7e40e21c694002a3eaea7a9afd9f2ef5f58fe76e435d4cddec85e8f81", func := "loop.example/g00933/laws.FnExactRenameLegs", spec := "fnExactRenameLegs", apart := false, narrowed := true }
def FnExactRenameLegsUptoSaid : Prop := fnExactRenameLegsUptoRow.holds Try.pinned (OpenSpec.upto fnExactRenameLegsSpec)

/-- 'laws.FnExactConflictLegs', WHERE WHAT IT READS IS OF BULK AT MOST 1048576: true; the input reads as it did. -/
def fnExactConflictLegsUptoRow : OpenClaim := { program := "ytfaojmabalplfaa", sum := "05aa77b7e40e21c694002a3eaea7a9afd9f2ef5f58fe76e435d4cddec85e8f81", func := "loop.example/g00933/laws.FnExactConflictLegs", spec := "fnExactConflictLegs", unfollowed := true, recurses := true, apart := false, narrowed := true }
def FnExactConflictLegsUptoSaid : Prop := fnExactConflictLegsUptoRow.holds Try.pinned (OpenSpec.upto fnExactConflictLegsSpec)

/-- 'laws.FnExactMatchScore', WHERE WHAT IT READS IS OF BULK AT MOST 1048576: true; the input reads as it did. -/
def fnExactMatchScoreUptoRow : OpenClaim := { program := "ytfaojmabalplfaa", sum := "05aa77b7e40e21c694002a3eaea7a9afd9f2ef5f58fe76e435d4cddec85e8f81", func := "loop.example/g00933/laws.FnExactMatchScore", spec := "fnExactMatchScore", unfollowed := true, recurses := true, apart := false, narrowed := true }
def FnExactMatchScoreUptoSaid : Prop := fnExactMatchScoreUptoRow.holds Try.pinned (OpenSpec.upto fnExactMatchScoreSpec)

/-- 'laws.FnExactImproveRenaming', WHERE WHAT IT READS IS OF BULK AT MOST 1048576: true; the input reads as it did. -/
def fnExactImproveRenamingUptoRow : OpenClaim := { program := "ytfaojmabalplfaa", sum := "05aa77b7e40e21c694002a3eaea7a9afd9f2ef5f58fe76e435d4cddec85e8f81", func := "loop.example/g00933/laws.FnExactImproveRenaming", spec := "fnExactImproveRenaming", unfollowed := true, recurses := true, apart := false, narrowed := true }
def FnExactImproveRenamingUptoSaid : Prop := fnExactImproveRenamingUptoRow.holds Try.pinned (OpenSpec.upto fnExactImproveRenamingSpec)

/-- 'laws.FnRenamings', WHERE WHAT IT READS IS OF BULK AT MOST 1048576: true; the input reads as it did. -/
def fnRenamingsUptoRow : OpenClaim := { program := "ytfaojmabalplfaa", sum := "05aa77b7e40e21c694002a3eaea7a9afd9f2ef5f58fe76e435d4cddec85e8f81", func := "loop.example/g00933/laws.FnRenamings", spec := "fnRenamings", unfollowed := true, recurses := true, apart := false, narrowed := true }
def FnRenamingsUptoSaid : Prop := fnRenamingsUptoRow.holds Try.pinned (OpenSpec.upto fnRenamingsSpec)

/-- 'laws.FnClubs', WHERE WHAT IT READS IS OF BULK AT MOST 1048576: true; the input reads as it did. -/
def fnClubsUptoRow : OpenClaim := { program := "ytfaojmabalplfaa", sum := "05aa77b7e40e21c694002a3eaea7a9afd9f2ef5f58fe76e435d4cddec85e8f81", func := "loop.example/g00933/laws.FnClubs", spec := "fnClubs", unfollowed := true, recurses := true, apart := false, narrowed := true }
def FnClubsUptoSaid : Prop := fnClubsUptoRow.holds Try.pinned (OpenSpec.upto fnClubsSpec)

end Rows
end Go.Proofs.Ytfaojmabalplfaa

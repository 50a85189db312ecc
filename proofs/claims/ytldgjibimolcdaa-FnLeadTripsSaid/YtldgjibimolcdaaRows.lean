/-
  No cell of these rows narrows 'for every input' (looked for: loops, veiled, ifaces, maps, wideKeys, modest, calm, conditions, laid).
  DERIVED. THE GIVEN ROWS OF THIS SEAT. 9 by the template 'for every input the law returns true; each argument reads behind the call as it read before'; 0 by the template 'total and deterministic' (their statements: YtldgjibimolcdaaTotals.lean).
  GIVEN WITH THE SEED: the statements are not yours to turn. If you find one false, say at which input.
  Laid BY PROGRAM, IN A SANDBOX (cutbox-rows.mjs): the forced cells as the released guide's own fill.sh prints them over the translation 66f0fff2d0d34f7a… (all of the seat's roots in one cut). By AI agents, Wed Nov 11 2026. No macro, syntax, notation, axiom, sorry.
-/
import Derived.Test.YtldgjibimolcdaaChecked
import GoSem.Claim
import GoSem.ClaimJoined
import GoSem.ClaimMapViews
import Derived.JoinedTies
import Derived.KernelRfl
namespace Go.Proofs.Ytldgjibimolcdaa
/- THE CELL 'sum', in the pinned program and in every row, IS THE sha256 OF THE DUMP (.gsa) THAT YtldgjibimolcdaaProg.lean LOADS. Nothing in Lean hashes anything: it is a label: what it is worth is what the hold of that sum in a sandbox is worth. -/
noncomputable def Try.pinned : Pinned := { name := "ytldgjibimolcdaa", sum := "66f0fff2d0d34f7ad36d96a52871b6e3f418091f57fa2c001a54d138a545b499", checked := Try.checked }
namespace Rows
def none {H : Type} : Left H := { results := [], args := [] }

/-- 'laws.FnExactIsLead': WHATEVER THE INPUT: true; the input reads as it did. -/
def fnExactIsLeadSpec : ChangeSpec := { name := "fnExactIsLead", fn := fun _ => fun
  | [d] => { results := [.lit (.bool true)], args := [d] }
  | _ => none }
def fnExactIsLeadRow : OpenClaim := { program := "ytldgjibimolcdaa", sum := "66f0fff2d0d34f7ad36d96a52871b6e3f418091f57fa2c001a54d138a545b499", func := "loop.example/g00933/laws.FnExactIsLead", spec := "fnExactIsLead", apart := false }
def FnExactIsLeadSaid : Prop := fnExactIsLeadRow.holds Try.pinned (OpenSpec.ofChange fnExactIsLeadSpec)

/-- ITS FALSE NEIGHBOUR: 'it returns false'. Refute it at one input. -/
def fnExactIsLeadWrong : ChangeSpec := { name := "fnExactIsLead", fn := fun _ => fun
  | [d] => { results := [.lit (.bool false)], args := [d] }
  | _ => none }
def FnExactIsLeadWrongFalsely : Prop := fnExactIsLeadRow.holds Try.pinned (OpenSpec.ofChange fnExactIsLeadWrong)

/-- 'laws.FnExactAreLeads': WHATEVER THE INPUT: true; the input reads as it did. -/
def fnExactAreLeadsSpec : ChangeSpec := { name := "fnExactAreLeads", fn := fun _ => fun
  | [d] => { results := [.lit (.bool true)], args := [d] }
  | _ => none }
def fnExactAreLeadsRow : OpenClaim := { program := "ytldgjibimolcdaa", sum := "66f0fff2d0d34f7ad36d96a52871b6e3f418091f57fa2c001a54d138a545b499", func := "loop.example/g00933/laws.FnExactAreLeads", spec := "fnExactAreLeads", apart := false }
def FnExactAreLeadsSaid : Prop := fnExactAreLeadsRow.holds Try.pinned (OpenSpec.ofChange fnExactAreLeadsSpec)

/-- ITS FALSE NEIGHBOUR: 'it returns false'. Refute it at one input. -/
def fnExactAreLeadsWrong : ChangeSpec := { name := "fnExactAreLeads", fn := fun _ => fun
  | [d] => { results := [.lit (.bool false)], args := [d] }
  | _ => none }
def FnExactAreLeadsWrongFalsely : Prop := fnExactAreLeadsRow.holds Try.pinned (OpenSpec.ofChange fnExactAreLeadsWrong)

/-- 'laws.FnExactLeadsAt': WHATEVER THE INPUT: true; the input reads as it did. -/
def fnExactLeadsAtSpec : ChangeSpec := { name := "fnExactLeadsAt", fn := fun _ => fun
  | [d1, d2] => { results := [.lit (.bool true)], args := [d1, d2] }
  | _ => none }
def fnExactLeadsAtRow : OpenClaim := { program := "ytldgjibimolcdaa", sum := "66f0fff2d0d34f7ad36d96a52871b6e3f418091f57fa2c001a54d138a545b499", func := "loop.example/g00933/laws.FnExactLeadsAt", spec := "fnExactLeadsAt", apart := false }
def FnExactLeadsAtSaid : Prop := fnExactLeadsAtRow.holds Try.pinned (OpenSpec.ofChange fnExactLeadsAtSpec)

/-- ITS FALSE NEIGHBOUR: 'it returns false'. Refute it at one input. -/
def fnExactLeadsAtWrong : ChangeSpec := { name := "fnExactLeadsAt", fn := fun _ => fun
  | [d1, d2] => { results := [.lit (.bool false)], args := [d1, d2] }
  | _ => none }
def FnExactLeadsAtWrongFalsely : Prop := fnExactLeadsAtRow.holds Try.pinned (OpenSpec.ofChange fnExactLeadsAtWrong)

/-- 'laws.FnExactStatesOf': WHATEVER THE INPUT: true; the input reads as it did. -/
def fnExactStatesOfSpec : ChangeSpec := { name := "fnExactStatesOf", fn := fun _ => fun
  | [d] => { results := [.lit (.bool true)], args := [d] }
  | _ => none }
def fnExactStatesOfRow : OpenClaim := { program := "ytldgjibimolcdaa", sum := "66f0fff2d0d34f7ad36d96a52871b6e3f418091f57fa2c001a54d138a545b499", func := "loop.example/g00933/laws.FnExactStatesOf", spec := "fnExactStatesOf", apart := false }
def FnExactStatesOfSaid : Prop := fnExactStatesOfRow.holds Try.pinned (OpenSpec.ofChange fnExactStatesOfSpec)

/-- ITS FALSE NEIGHBOUR: 'it returns false'. Refute it at one input. -/
def fnExactStatesOfWrong : ChangeSpec := { name := "fnExactStatesOf", fn := fun _ => fun
  | [d] => { results := [.lit (.bool false)], args := [d] }
  | _ => none }
def FnExactStatesOfWrongFalsely : Prop := fnExactStatesOfRow.holds Try.pinned (OpenSpec.ofChange fnExactStatesOfWrong)

/-- 'laws.FnExactChangeLead': WHATEVER THE INPUT: true; the input reads as it did. -/
def fnExactChangeLeadSpec : ChangeSpec := { name := "fnExactChangeLead", fn := fun _ => fun
  | [d1, d2, d3] => { results := [.lit (.bool true)], args := [d1, d2, d3] }
  | _ => none }
def fnExactChangeLeadRow : OpenClaim := { program := "ytldgjibimolcdaa", sum := "66f0fff2d0d34f7ad36d96a52871b6e3f418091f57fa2c001a54d138a545b499", func := "loop.example/g00933/laws.FnExactChangeLead", spec := "fnExactChangeLead", unfollowed := true, recurses := true, apart := false }
def FnExactChangeLeadSaid : Prop := fnExactChangeLeadRow.holds Try.pinned (OpenSpec.ofChange fnExactChangeLeadSpec)

/-- ITS FALSE NEIGHBOUR: 'it returns false'. Refute it at one input. -/
def fnExactChangeLeadWrong : ChangeSpec := { name := "fnExactChangeLead", fn := fun _ => fun
  | [d1, d2, d3] => { results := [.lit (.bool false)], args := [d1, d2, d3] }
  | _ => none }
def FnExactChangeLeadWrongFalsely : Prop := fnExactChangeLeadRow.holds Try.pinned (OpenSpec.ofChange fnExactChangeLeadWrong)

/-- 'laws.FnExactBestLead': WHATEVER THE INPUT: true; the input reads as it did. -/
def fnExactBestLeadSpec : ChangeSpec := { name := "fnExactBestLead", fn := fun _ => fun
  | [d] => { results := [.lit (.bool true)], args := [d] }
  | _ => none }
def fnExactBestLeadRow : OpenClaim := { program := "ytldgjibimolcdaa", sum := "66f0fff2d0d34f7ad36d96a52871b6e3f418091f57fa2c001a54d138a545b499", func := "loop.example/g00933/laws.FnExactBestLead", spec := "fnExactBestLead", unfollowed := true, recurses := true, apart := false }
def FnExactBestLeadSaid : Prop := fnExactBestLeadRow.holds Try.pinned (OpenSpec.ofChange fnExactBestLeadSpec)

/-- ITS FALSE NEIGHBOUR: 'it returns false'. Refute it at one input. -/
def fnExactBestLeadWrong : ChangeSpec := { name := "fnExactBestLead", fn := fun _ => fun
  | [d] => { results := [.lit (.bool false)], args := [d] }
  | _ => none }
def FnExactBestLeadWrongFalsely : Prop := fnExactBestLeadRow.holds Try.pinned (OpenSpec.ofChange fnExactBestLeadWrong)

/-- 'laws.FnExactRankLeads': WHATEVER THE INPUT: true; the input reads as it did. -/
def fnExactRankLeadsSpec : ChangeSpec := { name := "fnExactRankLeads", fn := fun _ => fun
  | [d] => { results := [.lit (.bool true)], args := [d] }
  | _ => none }
def fnExactRankLeadsRow : OpenClaim := { program := "ytldgjibimolcdaa", sum := "66f0fff2d0d34f7ad36d96a52871b6e3f418091f57fa2c001a54d138a545b499", func := "loop.example/g00933/laws.FnExactRankLeads", spec := "fnExactRankLeads", unfollowed := true, recurses := true, apart := false }
def FnExactRankLeadsSaid : Prop := fnExactRankLeadsRow.holds Try.pinned (OpenSpec.ofChange fnExactRankLeadsSpec)

/-- ITS FALSE NEIGHBOUR: 'it returns false'. Refute it at one input. -/
def fnExactRankLeadsWrong : ChangeSpec := { name := "fnExactRankLeads", fn := fun _ => fun
  | [d] => { results := [.lit (.bool false)], args := [d] }
  | _ => none }
def FnExactRankLeadsWrongFalsely : Prop := fnExactRankLeadsRow.holds Try.pinned (OpenSpec.ofChange fnExactRankLeadsWrong)

/-- 'laws.FnExactTripFor': WHATEVER THE INPUT: true; the input reads as it did. -/
def fnExactTripForSpec : ChangeSpec := { name := "fnExactTripFor", fn := fun _ => fun
  | [d1, d2, d3] => { results := [.lit (.bool true)], args := [d1, d2, d3] }
  | _ => none }
def fnExactTripForRow : OpenClaim := { program := "ytldgjibimolcdaa", sum := "66f0fff2d0d34f7ad36d96a52871b6e3f418091f57fa2c001a54d138a545b499", func := "loop.example/g00933/laws.FnExactTripFor", spec := "fnExactTripFor", unfollowed := true, recurses := true, apart := false }
def FnExactTripForSaid : Prop := fnExactTripForRow.holds Try.pinned (OpenSpec.ofChange fnExactTripForSpec)

/-- ITS FALSE NEIGHBOUR: 'it returns false'. Refute it at one input. -/
def fnExactTripForWrong : ChangeSpec := { name := "fnExactTripFor", fn := fun _ => fun
  | [d1, d2, d3] => { results := [.lit (.bool false)], args := [d1, d2, d3] }
  | _ => none }
def FnExactTripForWrongFalsely : Prop := fnExactTripForRow.holds Try.pinned (OpenSpec.ofChange fnExactTripForWrong)

/-- 'laws.FnLeadTrips': WHATEVER THE INPUT: true; the input reads as it did. -/
def fnLeadTripsSpec : ChangeSpec := { name := "fnLeadTrips", fn := fun _ => fun
  | [d] => { results := [.lit (.bool true)], args := [d] }
  | _ => none }
def fnLeadTripsRow : OpenClaim := { program := "ytldgjibimolcdaa", sum := "66f0fff2d0d34f7ad36d96a52871b6e3f418091f57fa2c001a54d138a545b499", func := "loop.example/g00933/laws.FnLeadTrips", spec := "fnLeadTrips", unfollowed := true, recurses := true, apart := false }
def FnLeadTripsSaid : Prop := fnLeadTripsRow.holds Try.pinned (OpenSpec.ofChange fnLeadTripsSpec)

/-- ITS FALSE NEIGHBOUR: 'it returns false'. Refute it at one input. -/
def fnLeadTripsWrong : ChangeSpec := { name := "fnLeadTrips", fn := fun _ => fun
  | [d] => { results := [.lit (.bool false)], args := [d] }
  | _ => none }
def FnLeadTripsWrongFalsely : Prop := fnLeadTripsRow.holds Try.pinned (OpenSpec.ofChange fnLeadTripsWrong)

/- THE SECOND FORM. 'bulk': how many values and letters a reading holds, each counted each time it is reached (what is shared counts as often as it is met; a slice's spare places count too). A statement '..UptoSaid' is the law's where the arguments, and the package variables that the reading takes, are together of bulk at most 1048576: NARROWER than '..Said'. Prove '..Said' where nothing that the law and all that it calls make is longer than what came in: it says more and counts as full. Else prove '..UptoSaid'. A law counts once. -/
mutual
def uptoBulk {H : Type} : DataW H → Nat
  | .lit (.string bytes) => bytes.length + 1
  | .lit _ => 1
  | .nil => 1
  | .ptr d => uptoBulk d + 1
  | .slice elems spare => uptoBulkAll elems + uptoBulkAll spare + 1
  | .agg parts => uptoBulkAll parts + 1
  | .iface _ d => uptoBulk d + 1
  | .map entries => uptoBulkEntries entries + 1
  | .held _ => 1
def uptoBulkAll {H : Type} : List (DataW H) → Nat
  | [] => 0
  | d :: r => uptoBulk d + uptoBulkAll r
def uptoBulkEntries {H : Type} : List (Lit × DataW H) → Nat
  | [] => 0
  | x :: r => uptoBulkEntry x + uptoBulkEntries r
def uptoBulkEntry {H : Type} : Lit × DataW H → Nat
  | (.string bytes, d) => bytes.length + uptoBulk d + 1
  | (_, d) => uptoBulk d + 1
 end
def uptoSmall : (H : Type) → List (DataW H) → Bool := fun _ ds => decide (uptoBulkAll ds ≤ 1048576)
def OpenSpec.upto (s : _root_.Go.ChangeSpec) : _root_.Go.OpenSpec := { _root_.Go.OpenSpec.ofChange s with cond := some uptoSmall }

/-- 'laws.FnExactIsLead', WHERE WHAT IT READS IS OF BULK AT MOST 1048576: true; the input reads as it did. -/
def fnExactIsLeadUptoRow : OpenClaim := { program := "ytldgjibimolcdaa", sum := "66f0fff2d0d34f7ad36d96a52871b6e3f418091f57fa2c001a54d138a545b499", func := "loop.example/g00933/laws.FnExactIsLead", spec := "fnExactIsLead", apart := false, narrowed := true }
def FnExactIsLeadUptoSaid : Prop := fnExactIsLeadUptoRow.holds Try.pinned (OpenSpec.upto fnExactIsLeadSpec)

/-- 'laws.FnExactAreLeads', WHERE WHAT IT READS IS OF BULK AT MOST 1048576: true; the input reads as it did. -/
def fnExactAreLeadsUptoRow : OpenClaim := { program := "ytldgjibimolcdaa", sum := "66f0fff2d0d34f7ad36d96a52871b6e3f418091f57fa2c001a54d138a545b499", func := "loop.example/g00933/laws.FnExactAreLeads", spec := "fnExactAreLeads", apart := false, narrowed := true }
def FnExactAreLeadsUptoSaid : Prop := fnExactAreLeadsUptoRow.holds Try.pinned (OpenSpec.upto fnExactAreLeadsSpec)

/-- 'laws.FnExactLeadsAt', WHERE WHAT IT READS IS OF BULK AT MOST 1048576: true; the input reads as it did. -/
def fnExactLeadsAtUptoRow : OpenClaim := { program := "ytldgjibimolcdaa", sum := "66f0fff2d0d34f7ad36d96a52871b6e3f418091f57fa2c001a54d138a545b499", func := "loop.example/g00933/laws.FnExactLeadsAt", spec := "fnExactLeadsAt", apart := false, narrowed := true }
def FnExactLeadsAtUptoSaid : Prop := fnExactLeadsAtUptoRow.holds Try.pinned (OpenSpec.upto fnExactLeadsAtSpec)

/-- 'laws.FnExactStatesOf', WHERE WHAT IT READS IS OF BULK AT MOST 1048576: true; the input reads as it did. -/
def fnExactStatesOfUptoRow : OpenClaim := { program := "ytldgjibimolcdaa", sum := "66f0fff2d0d34f7ad36d96a52871b6e3f418091f57fa2c001a54d138a545b499", func := "loop.example/g00933/laws.FnExactStatesOf", spec := "fnExactStatesOf", apart := false, narrowed := true }
def FnExactStatesOfUptoSaid : Prop := fnExactStatesOfUptoRow.holds Try.pinned (OpenSpec.upto fnExactStatesOfSpec)

/-- 'laws.FnExactChangeLead', WHERE WHAT IT READS IS OF BULK AT MOST 1048576: true; the input reads as it did. -/
def fnExactChangeLeadUptoRow : OpenClaim := { program := "ytldgjibimolcdaa", sum := "66f0fff2d0d34f7ad36d96a52871b6e3f418091f57fa2c001a54d138a545b499", func := "loop.example/g00933/laws.FnExactChangeLead", spec := "fnExactChangeLead", unfollowed := true, recurses := true, apart := false, narrowed := true }
def FnExactChangeLeadUptoSaid : Prop := fnExactChangeLeadUptoRow.holds Try.pinned (OpenSpec.upto fnExactChangeLeadSpec)

/-- 'laws.FnExactBestLead', WHERE WHAT IT READS IS OF BULK AT MOST 1048576: true; the input reads as it did. -/
def fnExactBestLeadUptoRow : OpenClaim := { program := "ytldgjibimolcdaa", sum := "66f0fff2d0d34f7ad36d96a52871b6e3f418091f57fa2c001a54d138a545b499", func := "loop.example/g00933/laws.FnExactBestLead", spec := "fnExactBestLead", unfollowed := true, recurses := true, apart := false, narrowed := true }
def FnExactBestLeadUptoSaid : Prop := fnExactBestLeadUptoRow.holds Try.pinned (OpenSpec.upto fnExactBestLeadSpec)

/-- 'laws.FnExactRankLeads', WHERE WHAT IT READS IS OF BULK AT MOST 1048576: true; the input reads as it did. -/
def fnExactRankLeadsUptoRow : OpenClaim := { program := "ytldgjibimolcdaa", sum := "66f0fff2d0d34f7ad36d96a52871b6e3f418091f57fa2c001a54d138a545b499", func := "loop.example/g00933/laws.FnExactRankLeads", spec := "fnExactRankLeads", unfollowed := true, recurses := true, apart := false, narrowed := true }
def FnExactRankLeadsUptoSaid : Prop := fnExactRankLeadsUptoRow.holds Try.pinned (OpenSpec.upto fnExactRankLeadsSpec)

/-- 'laws.FnExactTripFor', WHERE WHAT IT READS IS OF BULK AT MOST 1048576: true; the input reads as it did. -/
def fnExactTripForUptoRow : OpenClaim := { program := "ytldgjibimolcdaa", sum := "66f0fff2d0d34f7ad36d96a52871b6e3f418091f57fa2c001a54d138a545b499", func := "loop.example/g00933/laws.FnExactTripFor", spec := "fnExactTripFor", unfollowed := true, recurses := true, apart := false, narrowed := true }
def FnExactTripForUptoSaid : Prop := fnExactTripForUptoRow.holds Try.pinned (OpenSpec.upto fnExactTripForSpec)

/-- 'laws.FnLeadTrips', WHERE WHAT IT READS IS OF BULK AT MOST 1048576: true; the input reads as it did. -/
def fnLeadTripsUptoRow : OpenClaim := { program := "ytldgjibimolcdaa", sum := "66f0fff2d0d34f7ad36d96a52871b6e3f418091f57fa2c001a54d138a545b499", func := "loop.example/g00933/laws.FnLeadTrips", spec := "fnLeadTrips", unfollowed := true, recurses := true, apart := false, narrowed := true }
def FnLeadTripsUptoSaid : Prop := fnLeadTripsUptoRow.holds Try.pinned (OpenSpec.upto fnLeadTripsSpec)

end Rows
end Go.Proofs.Ytldgjibimolcdaa

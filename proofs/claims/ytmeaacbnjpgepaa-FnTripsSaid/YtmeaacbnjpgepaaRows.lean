/-
  No cell of these rows narrows 'for every input' (looked for: loops, veiled, ifaces, maps, wideKeys, modest, calm, conditions, laid).
  DERIVED. THE GIVEN ROWS OF THIS SEAT. 8 by the template 'for every input the law returns true; each argument reads behind the call as it read before'; 0 by the template 'total and deterministic' (their statements: YtmeaacbnjpgepaaTotals.lean).
  GIVEN WITH THE SEED: the statements are not yours to turn. If you find one false, say at which input.
  Laid BY PROGRAM, IN A SANDBOX (cutbox-rows.mjs): the forced cells as the released guide's own fill.sh prints them over the translation 3b4d9216c6cdf763… (all of the seat's roots in one cut). By AI agents, Wed Nov 11 2026. No macro, syntax, notation, axiom, sorry.
-/
import Derived.Test.YtmeaacbnjpgepaaChecked
import GoSem.Claim
import GoSem.ClaimJoined
import GoSem.ClaimMapViews
import Derived.JoinedTies
import Derived.KernelRfl
namespace Go.Proofs.Ytmeaacbnjpgepaa
/- THE CELL 'sum', in the pinned program and in every row, IS THE sha256 OF THE DUMP (.gsa) THAT YtmeaacbnjpgepaaProg.lean LOADS. Nothing in Lean hashes anything: it is a label: what it is worth is what the hold of that sum in a sandbox is worth. -/
noncomputable def Try.pinned : Pinned := { name := "ytmeaacbnjpgepaa", sum := "3b4d9216c6cdf763c9d9423d3d68b461d9da5956fbee79dda41f0fb8102b5947", checked := Try.checked }
namespace Rows
def none {H : Type} : Left H := { results := [], args := [] }

/-- 'laws.FnExactIsTrip': WHATEVER THE INPUT: true; the input reads as it did. -/
def fnExactIsTripSpec : ChangeSpec := { name := "fnExactIsTrip", fn := fun _ => fun
  | [d] => { results := [.lit (.bool true)], args := [d] }
  | _ => none }
def fnExactIsTripRow : OpenClaim := { program := "ytmeaacbnjpgepaa", sum := "3b4d9216c6cdf763c9d9423d3d68b461d9da5956fbee79dda41f0fb8102b5947", func := "loop.example/g00933/laws.FnExactIsTrip", spec := "fnExactIsTrip", apart := false }
def FnExactIsTripSaid : Prop := fnExactIsTripRow.holds Try.pinned (OpenSpec.ofChange fnExactIsTripSpec)

/-- ITS FALSE NEIGHBOUR: 'it returns false'. Refute it at one input. -/
def fnExactIsTripWrong : ChangeSpec := { name := "fnExactIsTrip", fn := fun _ => fun
  | [d] => { results := [.lit (.bool false)], args := [d] }
  | _ => none }
def FnExactIsTripWrongFalsely : Prop := fnExactIsTripRow.holds Try.pinned (OpenSpec.ofChange fnExactIsTripWrong)

/-- 'laws.FnExactTimeLeft': WHATEVER THE INPUT: true; the input reads as it did. -/
def fnExactTimeLeftSpec : ChangeSpec := { name := "fnExactTimeLeft", fn := fun _ => fun
  | [d] => { results := [.lit (.bool true)], args := [d] }
  | _ => none }
def fnExactTimeLeftRow : OpenClaim := { program := "ytmeaacbnjpgepaa", sum := "3b4d9216c6cdf763c9d9423d3d68b461d9da5956fbee79dda41f0fb8102b5947", func := "loop.example/g00933/laws.FnExactTimeLeft", spec := "fnExactTimeLeft", apart := false }
def FnExactTimeLeftSaid : Prop := fnExactTimeLeftRow.holds Try.pinned (OpenSpec.ofChange fnExactTimeLeftSpec)

/-- ITS FALSE NEIGHBOUR: 'it returns false'. Refute it at one input. -/
def fnExactTimeLeftWrong : ChangeSpec := { name := "fnExactTimeLeft", fn := fun _ => fun
  | [d] => { results := [.lit (.bool false)], args := [d] }
  | _ => none }
def FnExactTimeLeftWrongFalsely : Prop := fnExactTimeLeftRow.holds Try.pinned (OpenSpec.ofChange fnExactTimeLeftWrong)

/-- 'laws.FnExactPeopleInside': WHATEVER THE INPUT: true; the input reads as it did. -/
def fnExactPeopleInsideSpec : ChangeSpec := { name := "fnExactPeopleInside", fn := fun _ => fun
  | [d] => { results := [.lit (.bool true)], args := [d] }
  | _ => none }
def fnExactPeopleInsideRow : OpenClaim := { program := "ytmeaacbnjpgepaa", sum := "3b4d9216c6cdf763c9d9423d3d68b461d9da5956fbee79dda41f0fb8102b5947", func := "loop.example/g00933/laws.FnExactPeopleInside", spec := "fnExactPeopleInside", unfollowed := true, recurses := true, apart := false }
def FnExactPeopleInsideSaid : Prop := fnExactPeopleInsideRow.holds Try.pinned (OpenSpec.ofChange fnExactPeopleInsideSpec)

/-- ITS FALSE NEIGHBOUR: 'it returns false'. Refute it at one input. -/
def fnExactPeopleInsideWrong : ChangeSpec := { name := "fnExactPeopleInside", fn := fun _ => fun
  | [d] => { results := [.lit (.bool false)], args := [d] }
  | _ => none }
def FnExactPeopleInsideWrongFalsely : Prop := fnExactPeopleInsideRow.holds Try.pinned (OpenSpec.ofChange fnExactPeopleInsideWrong)

/-- 'laws.FnExactNextKinds': WHATEVER THE INPUT: true; the input reads as it did. -/
def fnExactNextKindsSpec : ChangeSpec := { name := "fnExactNextKinds", fn := fun _ => fun
  | [d] => { results := [.lit (.bool true)], args := [d] }
  | _ => none }
def fnExactNextKindsRow : OpenClaim := { program := "ytmeaacbnjpgepaa", sum := "3b4d9216c6cdf763c9d9423d3d68b461d9da5956fbee79dda41f0fb8102b5947", func := "loop.example/g00933/laws.FnExactNextKinds", spec := "fnExactNextKinds", apart := false }
def FnExactNextKindsSaid : Prop := fnExactNextKindsRow.holds Try.pinned (OpenSpec.ofChange fnExactNextKindsSpec)

/-- ITS FALSE NEIGHBOUR: 'it returns false'. Refute it at one input. -/
def fnExactNextKindsWrong : ChangeSpec := { name := "fnExactNextKinds", fn := fun _ => fun
  | [d] => { results := [.lit (.bool false)], args := [d] }
  | _ => none }
def FnExactNextKindsWrongFalsely : Prop := fnExactNextKindsRow.holds Try.pinned (OpenSpec.ofChange fnExactNextKindsWrong)

/-- 'laws.FnExactOverdueTrips': WHATEVER THE INPUT: true; the input reads as it did. -/
def fnExactOverdueTripsSpec : ChangeSpec := { name := "fnExactOverdueTrips", fn := fun _ => fun
  | [d1, d2] => { results := [.lit (.bool true)], args := [d1, d2] }
  | _ => none }
def fnExactOverdueTripsRow : OpenClaim := { program := "ytmeaacbnjpgepaa", sum := "3b4d9216c6cdf763c9d9423d3d68b461d9da5956fbee79dda41f0fb8102b5947", func := "loop.example/g00933/laws.FnExactOverdueTrips", spec := "fnExactOverdueTrips", unfollowed := true, recurses := true, apart := false }
def FnExactOverdueTripsSaid : Prop := fnExactOverdueTripsRow.holds Try.pinned (OpenSpec.ofChange fnExactOverdueTripsSpec)

/-- ITS FALSE NEIGHBOUR: 'it returns false'. Refute it at one input. -/
def fnExactOverdueTripsWrong : ChangeSpec := { name := "fnExactOverdueTrips", fn := fun _ => fun
  | [d1, d2] => { results := [.lit (.bool false)], args := [d1, d2] }
  | _ => none }
def FnExactOverdueTripsWrongFalsely : Prop := fnExactOverdueTripsRow.holds Try.pinned (OpenSpec.ofChange fnExactOverdueTripsWrong)

/-- 'laws.FnExactStepTrip': WHATEVER THE INPUT: true; the input reads as it did. -/
def fnExactStepTripSpec : ChangeSpec := { name := "fnExactStepTrip", fn := fun _ => fun
  | [d1, d2] => { results := [.lit (.bool true)], args := [d1, d2] }
  | _ => none }
def fnExactStepTripRow : OpenClaim := { program := "ytmeaacbnjpgepaa", sum := "3b4d9216c6cdf763c9d9423d3d68b461d9da5956fbee79dda41f0fb8102b5947", func := "loop.example/g00933/laws.FnExactStepTrip", spec := "fnExactStepTrip", apart := false }
def FnExactStepTripSaid : Prop := fnExactStepTripRow.holds Try.pinned (OpenSpec.ofChange fnExactStepTripSpec)

/-- ITS FALSE NEIGHBOUR: 'it returns false'. Refute it at one input. -/
def fnExactStepTripWrong : ChangeSpec := { name := "fnExactStepTrip", fn := fun _ => fun
  | [d1, d2] => { results := [.lit (.bool false)], args := [d1, d2] }
  | _ => none }
def FnExactStepTripWrongFalsely : Prop := fnExactStepTripRow.holds Try.pinned (OpenSpec.ofChange fnExactStepTripWrong)

/-- 'laws.FnExactRunTrip': WHATEVER THE INPUT: true; the input reads as it did. -/
def fnExactRunTripSpec : ChangeSpec := { name := "fnExactRunTrip", fn := fun _ => fun
  | [d1, d2] => { results := [.lit (.bool true)], args := [d1, d2] }
  | _ => none }
def fnExactRunTripRow : OpenClaim := { program := "ytmeaacbnjpgepaa", sum := "3b4d9216c6cdf763c9d9423d3d68b461d9da5956fbee79dda41f0fb8102b5947", func := "loop.example/g00933/laws.FnExactRunTrip", spec := "fnExactRunTrip", unfollowed := true, recurses := true, apart := false }
def FnExactRunTripSaid : Prop := fnExactRunTripRow.holds Try.pinned (OpenSpec.ofChange fnExactRunTripSpec)

/-- ITS FALSE NEIGHBOUR: 'it returns false'. Refute it at one input. -/
def fnExactRunTripWrong : ChangeSpec := { name := "fnExactRunTrip", fn := fun _ => fun
  | [d1, d2] => { results := [.lit (.bool false)], args := [d1, d2] }
  | _ => none }
def FnExactRunTripWrongFalsely : Prop := fnExactRunTripRow.holds Try.pinned (OpenSpec.ofChange fnExactRunTripWrong)

/-- 'laws.FnTrips': WHATEVER THE INPUT: true; the input reads as it did. -/
def fnTripsSpec : ChangeSpec := { name := "fnTrips", fn := fun _ => fun
  | [d] => { results := [.lit (.bool true)], args := [d] }
  | _ => none }
def fnTripsRow : OpenClaim := { program := "ytmeaacbnjpgepaa", sum := "3b4d9216c6cdf763c9d9423d3d68b461d9da5956fbee79dda41f0fb8102b5947", func := "loop.example/g00933/laws.FnTrips", spec := "fnTrips", unfollowed := true, recurses := true, apart := false }
def FnTripsSaid : Prop := fnTripsRow.holds Try.pinned (OpenSpec.ofChange fnTripsSpec)

/-- ITS FALSE NEIGHBOUR: 'it returns false'. Refute it at one input. -/
def fnTripsWrong : ChangeSpec := { name := "fnTrips", fn := fun _ => fun
  | [d] => { results := [.lit (.bool false)], args := [d] }
  | _ => none }
def FnTripsWrongFalsely : Prop := fnTripsRow.holds Try.pinned (OpenSpec.ofChange fnTripsWrong)

/- THE SECOND FORM. 'bulk': how many values and letters a reading holds, each counted each time it is reached (what is shared counts as often as it is met; a slice's spare places count too). A statement '..UptoSaid' is the law's where the arguments, and the package variables that the reading takes, are together of bulk at most 1048576: NARROWER than '..Said'. Prove '..Said' where nothing that the law and all that it calls make is longer than what came in: it says more and counts as full. Else prove '..UptoSaid'. A law counts once. -/
mutual
def uptoBulk {H : Type} : DataW H → Nat
  | .lit (.string bytes) => bytes.length + 1
  | .lit _ => 1
  | .nil => 1
  | .ptr d => uptoBulk d + 1
  | .slice elems spare => uptoBulkAll elems + uptoBulkAll spare + 1
  | .agg parts => uptoBulkAll parts + 1
  | .iface _ d => uptoBulk d + 1
  | .map entries => uptoBulkEntries entries + 1
  | .held _ => 1
def uptoBulkAll {H : Type} : List (DataW H) → Nat
  | [] => 0
  | d :: r => uptoBulk d + uptoBulkAll r
def uptoBulkEntries {H : Type} : List (Lit × DataW H) → Nat
  | [] => 0
  | x :: r => uptoBulkEntry x + uptoBulkEntries r
def uptoBulkEntry {H : Type} : Lit × DataW H → Nat
  | (.string bytes, d) => bytes.length + uptoBulk d + 1
  | (_, d) => uptoBulk d + 1
 end
def uptoSmall : (H : Type) → List (DataW H) → Bool := fun _ ds => decide (uptoBulkAll ds ≤ 1048576)
def OpenSpec.upto (s : _root_.Go.ChangeSpec) : _root_.Go.OpenSpec := { _root_.Go.OpenSpec.ofChange s with cond := some uptoSmall }

/-- 'laws.FnExactIsTrip', WHERE WHAT IT READS IS OF BULK AT MOST 1048576: true; the input reads as it did. -/
def fnExactIsTripUptoRow : OpenClaim := { program := "ytmeaacbnjpgepaa", sum := "3b4d9216c6cdf763c9d9423d3d68b461d9da5956fbee79dda41f0fb8102b5947", func := "loop.example/g00933/laws.FnExactIsTrip", spec := "fnExactIsTrip", apart := false, narrowed := true }
def FnExactIsTripUptoSaid : Prop := fnExactIsTripUptoRow.holds Try.pinned (OpenSpec.upto fnExactIsTripSpec)

/-- 'laws.FnExactTimeLeft', WHERE WHAT IT READS IS OF BULK AT MOST 1048576: true; the input reads as it did. -/
def fnExactTimeLeftUptoRow : OpenClaim := { program := "ytmeaacbnjpgepaa", sum := "3b4d9216c6cdf763c9d9423d3d68b461d9da5956fbee79dda41f0fb8102b5947", func := "loop.example/g00933/laws.FnExactTimeLeft", spec := "fnExactTimeLeft", apart := false, narrowed := true }
def FnExactTimeLeftUptoSaid : Prop := fnExactTimeLeftUptoRow.holds Try.pinned (OpenSpec.upto fnExactTimeLeftSpec)

/-- 'laws.FnExactPeopleInside', WHERE WHAT IT READS IS OF BULK AT MOST 1048576: true; the input reads as it did. -/
def fnExactPeopleInsideUptoRow : OpenClaim := { program := "ytmeaacbnjpgepaa", sum := "3b4d9216c6cdf763c9d9423d3d68b461d9da5956fbee79dda41f0fb8102b5947", func := "loop.example/g00933/laws.FnExactPeopleInside", spec := "fnExactPeopleInside", unfollowed := true, recurses := true, apart := false, narrowed := true }
def FnExactPeopleInsideUptoSaid : Prop := fnExactPeopleInsideUptoRow.holds Try.pinned (OpenSpec.upto fnExactPeopleInsideSpec)

/-- 'laws.FnExactNextKinds', WHERE WHAT IT READS IS OF BULK AT MOST 1048576: true; the input reads as it did. -/
def fnExactNextKindsUptoRow : OpenClaim := { program := "ytmeaacbnjpgepaa", sum := "3b4d9216c6cdf763c9d9423d3d68b461d9da5956fbee79dda41f0fb8102b5947", func := "loop.example/g00933/laws.FnExactNextKinds", spec := "fnExactNextKinds", apart := false, narrowed := true }
def FnExactNextKindsUptoSaid : Prop := fnExactNextKindsUptoRow.holds Try.pinned (OpenSpec.upto fnExactNextKindsSpec)

/-- 'laws.FnExactOverdueTrips', WHERE WHAT IT READS IS OF BULK AT MOST 1048576: true; the input reads as it did. -/
def fnExactOverdueTripsUptoRow : OpenClaim := { program := "ytmeaacbnjpgepaa", sum := "3b4d9216c6cdf763c9d9423d3d68b461d9da5956fbee79dda41f0fb8102b5947", func := "loop.example/g00933/laws.FnExactOverdueTrips", spec := "fnExactOverdueTrips", unfollowed := true, recurses := true, apart := false, narrowed := true }
def FnExactOverdueTripsUptoSaid : Prop := fnExactOverdueTripsUptoRow.holds Try.pinned (OpenSpec.upto fnExactOverdueTripsSpec)

/-- 'laws.FnExactStepTrip', WHERE WHAT IT READS IS OF BULK AT MOST 1048576: true; the input reads as it did. -/
def fnExactStepTripUptoRow : OpenClaim := { program := "ytmeaacbnjpgepaa", sum := "3b4d9216c6cdf763c9d9423d3d68b461d9da5956fbee79dda41f0fb8102b5947", func := "loop.example/g00933/laws.FnExactStepTrip", spec := "fnExactStepTrip", apart := false, narrowed := true }
def FnExactStepTripUptoSaid : Prop := fnExactStepTripUptoRow.holds Try.pinned (OpenSpec.upto fnExactStepTripSpec)

/-- 'laws.FnExactRunTrip', WHERE WHAT IT READS IS OF BULK AT MOST 1048576: true; the input reads as it did. -/
def fnExactRunTripUptoRow : OpenClaim := { program := "ytmeaacbnjpgepaa", sum := "3b4d9216c6cdf763c9d9423d3d68b461d9da5956fbee79dda41f0fb8102b5947", func := "loop.example/g00933/laws.FnExactRunTrip", spec := "fnExactRunTrip", unfollowed := true, recurses := true, apart := false, narrowed := true }
def FnExactRunTripUptoSaid : Prop := fnExactRunTripUptoRow.holds Try.pinned (OpenSpec.upto fnExactRunTripSpec)

/-- 'laws.FnTrips', WHERE WHAT IT READS IS OF BULK AT MOST 1048576: true; the input reads as it did. -/
def fnTripsUptoRow : OpenClaim := { program := "ytmeaacbnjpgepaa", sum := "3b4d9216c6cdf763c9d9423d3d68b461d9da5956fbee79dda41f0fb8102b5947", func := "loop.example/g00933/laws.FnTrips", spec := "fnTrips", unfollowed := true, recurses := true, apart := false, narrowed := true }
def FnTripsUptoSaid : Prop := fnTripsUptoRow.holds Try.pinned (OpenSpec.upto fnTripsSpec)

end Rows
end Go.Proofs.Ytmeaacbnjpgepaa

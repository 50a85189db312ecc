/-
  No cell of these rows narrows 'for every input' (looked for: loops, veiled, ifaces, maps, wideKeys, modest, calm, conditions, laid).
  DERIVED. THE GIVEN ROWS OF THIS SEAT. 7 by the template 'for every input the law returns true; each argument reads behind the call as it read before'; 0 by the template 'total and deterministic' (their statements: YtjmkcdgcjhnldaaTotals.lean).
  GIVEN WITH THE SEED: the statements are not yours to turn. If you find one false, say at which input.
  Laid BY PROGRAM, IN A SANDBOX (cutbox-rows.mjs): the forced cells as the released guide's own fill.sh prints them over the translation 728ac9c9c8fa1000… (all of the seat's roots in one cut). By AI agents, Wed Nov 11 2026. No macro, syntax, notation, axiom, sorry.
-/
import Derived.Test.YtjmkcdgcjhnldaaChecked
import GoSem.Claim
import GoSem.ClaimJoined
import GoSem.ClaimMapViews
import Derived.JoinedTies
import Derived.KernelRfl
namespace Go.Proofs.Ytjmkcdgcjhnldaa
/- THE CELL 'sum', in the pinned program and in every row, IS THE sha256 OF THE DUMP (.gsa) THAT YtjmkcdgcjhnldaaProg.lean LOADS. Nothing in Lean hashes anything: it is a label: what it is worth is what the hold of that sum in a sandbox is worth. -/
noncomputable def Try.pinned : Pinned := { name := "ytjmkcdgcjhnldaa", sum := "728ac9c9c8fa1000b3be257fc4efde274cad699167f001976a986cd607563c41", checked := Try.checked }
namespace Rows
def none {H : Type} : Left H := { results := [], args := [] }

/-- 'laws.FnExactIsLead': WHATEVER THE INPUT: true; the input reads as it did. -/
def fnExactIsLeadSpec : ChangeSpec := { name := "fnExactIsLead", fn := fun _ => fun
  | [d] => { results := [.lit (.bool true)], args := [d] }
  | _ => none }
def fnExactIsLeadRow : OpenClaim := { program := "ytjmkcdgcjhnldaa", sum := "728ac9c9c8fa1000b3be257fc4efde274cad699167f001976a986cd607563c41", func := "loop.example/g00933/laws.FnExactIsLead", spec := "fnExactIsLead", apart := false }
def FnExactIsLeadSaid : Prop := fnExactIsLeadRow.holds Try.pinned (OpenSpec.ofChange fnExactIsLeadSpec)

/-- ITS FALSE NEIGHBOUR: 'it returns false'. Refute it at one input. -/
def fnExactIsLeadWrong : ChangeSpec := { name := "fnExactIsLead", fn := fun _ => fun
  | [d] => { results := [.lit (.bool false)], args := [d] }
  | _ => none }
def FnExactIsLeadWrongFalsely : Prop := fnExactIsLeadRow.holds Try.pinned (OpenSpec.ofChange fnExactIsLeadWrong)

/-- 'laws.FnExactIsTrip': WHATEVER THE INPUT: true; the input reads as it did. -/
def fnExactIsTripSpec : ChangeSpec := { name := "fnExactIsTrip", fn := fun _ => fun
  | [d] => { results := [.lit (.bool true)], args := [d] }
  | _ => none }
def fnExactIsTripRow : OpenClaim := { program := "ytjmkcdgcjhnldaa", sum := "728ac9c9c8fa1000b3be257fc4efde274cad699167f001976a986cd607563c41", func := "loop.example/g00933/laws.FnExactIsTrip", spec := "fnExactIsTrip", apart := false }
def FnExactIsTripSaid : Prop := fnExactIsTripRow.holds Try.pinned (OpenSpec.ofChange fnExactIsTripSpec)

/-- ITS FALSE NEIGHBOUR: 'it returns false'. Refute it at one input. -/
def fnExactIsTripWrong : ChangeSpec := { name := "fnExactIsTrip", fn := fun _ => fun
  | [d] => { results := [.lit (.bool false)], args := [d] }
  | _ => none }
def FnExactIsTripWrongFalsely : Prop := fnExactIsTripRow.holds Try.pinned (OpenSpec.ofChange fnExactIsTripWrong)

/-- 'laws.FnExactTimeLeft': WHATEVER THE INPUT: true; the input reads as it did. -/
def fnExactTimeLeftSpec : ChangeSpec := { name := "fnExactTimeLeft", fn := fun _ => fun
  | [d] => { results := [.lit (.bool true)], args := [d] }
  | _ => none }
def fnExactTimeLeftRow : OpenClaim := { program := "ytjmkcdgcjhnldaa", sum := "728ac9c9c8fa1000b3be257fc4efde274cad699167f001976a986cd607563c41", func := "loop.example/g00933/laws.FnExactTimeLeft", spec := "fnExactTimeLeft", apart := false }
def FnExactTimeLeftSaid : Prop := fnExactTimeLeftRow.holds Try.pinned (OpenSpec.ofChange fnExactTimeLeftSpec)

/-- ITS FALSE NEIGHBOUR: 'it returns false'. Refute it at one input. -/
def fnExactTimeLeftWrong : ChangeSpec := { name := "fnExactTimeLeft", fn := fun _ => fun
  | [d] => { results := [.lit (.bool false)], args := [d] }
  | _ => none }
def FnExactTimeLeftWrongFalsely : Prop := fnExactTimeLeftRow.holds Try.pinned (OpenSpec.ofChange fnExactTimeLeftWrong)

/-- 'laws.FnExactIsRenaming': WHATEVER THE INPUT: true; the input reads as it did. -/
def fnExactIsRenamingSpec : ChangeSpec := { name := "fnExactIsRenaming", fn := fun _ => fun
  | [d] => { results := [.lit (.bool true)], args := [d] }
  | _ => none }
def fnExactIsRenamingRow : OpenClaim := { program := "ytjmkcdgcjhnldaa", sum := "728ac9c9c8fa1000b3be257fc4efde274cad699167f001976a986cd607563c41", func := "loop.example/g00933/laws.FnExactIsRenaming", spec := "fnExactIsRenaming", apart := false }
def FnExactIsRenamingSaid : Prop := fnExactIsRenamingRow.holds Try.pinned (OpenSpec.ofChange fnExactIsRenamingSpec)

/-- ITS FALSE NEIGHBOUR: 'it returns false'. Refute it at one input. -/
def fnExactIsRenamingWrong : ChangeSpec := { name := "fnExactIsRenaming", fn := fun _ => fun
  | [d] => { results := [.lit (.bool false)], args := [d] }
  | _ => none }
def FnExactIsRenamingWrongFalsely : Prop := fnExactIsRenamingRow.holds Try.pinned (OpenSpec.ofChange fnExactIsRenamingWrong)

/-- 'laws.FnExactAreReadings': WHATEVER THE INPUT: true; the input reads as it did. -/
def fnExactAreReadingsSpec : ChangeSpec := { name := "fnExactAreReadings", fn := fun _ => fun
  | [d] => { results := [.lit (.bool true)], args := [d] }
  | _ => none }
def fnExactAreReadingsRow : OpenClaim := { program := "ytjmkcdgcjhnldaa", sum := "728ac9c9c8fa1000b3be257fc4efde274cad699167f001976a986cd607563c41", func := "loop.example/g00933/laws.FnExactAreReadings", spec := "fnExactAreReadings", apart := false }
def FnExactAreReadingsSaid : Prop := fnExactAreReadingsRow.holds Try.pinned (OpenSpec.ofChange fnExactAreReadingsSpec)

/-- ITS FALSE NEIGHBOUR: 'it returns false'. Refute it at one input. -/
def fnExactAreReadingsWrong : ChangeSpec := { name := "fnExactAreReadings", fn := fun _ => fun
  | [d] => { results := [.lit (.bool false)], args := [d] }
  | _ => none }
def FnExactAreReadingsWrongFalsely : Prop := fnExactAreReadingsRow.holds Try.pinned (OpenSpec.ofChange fnExactAreReadingsWrong)

/-- 'laws.FnExactAreSumps': WHATEVER THE INPUT: true; the input reads as it did. -/
def fnExactAreSumpsSpec : ChangeSpec := { name := "fnExactAreSumps", fn := fun _ => fun
  | [d] => { results := [.lit (.bool true)], args := [d] }
  | _ => none }
def fnExactAreSumpsRow : OpenClaim := { program := "ytjmkcdgcjhnldaa", sum := "728ac9c9c8fa1000b3be257fc4efde274cad699167f001976a986cd607563c41", func := "loop.example/g00933/laws.FnExactAreSumps", spec := "fnExactAreSumps", apart := false }
def FnExactAreSumpsSaid : Prop := fnExactAreSumpsRow.holds Try.pinned (OpenSpec.ofChange fnExactAreSumpsSpec)

/-- ITS FALSE NEIGHBOUR: 'it returns false'. Refute it at one input. -/
def fnExactAreSumpsWrong : ChangeSpec := { name := "fnExactAreSumps", fn := fun _ => fun
  | [d] => { results := [.lit (.bool false)], args := [d] }
  | _ => none }
def FnExactAreSumpsWrongFalsely : Prop := fnExactAreSumpsRow.holds Try.pinned (OpenSpec.ofChange fnExactAreSumpsWrong)

/-- 'laws.FnExactAreLeads': WHATEVER THE INPUT: true; the input reads as it did. -/
def fnExactAreLeadsSpec : ChangeSpec := { name := "fnExactAreLeads", fn := fun _ => fun
  | [d] => { results := [.lit (.bool true)], args := [d] }
  | _ => none }
def fnExactAreLeadsRow : OpenClaim := { program := "ytjmkcdgcjhnldaa", sum := "728ac9c9c8fa1000b3be257fc4efde274cad699167f001976a986cd607563c41", func := "loop.example/g00933/laws.FnExactAreLeads", spec := "fnExactAreLeads", apart := false }
def FnExactAreLeadsSaid : Prop := fnExactAreLeadsRow.holds Try.pinned (OpenSpec.ofChange fnExactAreLeadsSpec)

/-- ITS FALSE NEIGHBOUR: 'it returns false'. Refute it at one input. -/
def fnExactAreLeadsWrong : ChangeSpec := { name := "fnExactAreLeads", fn := fun _ => fun
  | [d] => { results := [.lit (.bool false)], args := [d] }
  | _ => none }
def FnExactAreLeadsWrongFalsely : Prop := fnExactAreLeadsRow.holds Try.pinned (OpenSpec.ofChange fnExactAreLeadsWrong)

/- THE SECOND FORM. 'bulk': how many values and letters a reading holds, each counted each time it is reached (what is shared counts as often as it is met; a slice's spare places count too). A statement '..UptoSaid' is the law's where the arguments, and the package variables that the reading takes, are together of bulk at most 1048576: NARROWER than '..Said'. Prove '..Said' where nothing that the law and all that it calls make is longer than what came in: it says more and counts as full. Else prove '..UptoSaid'. A law counts once. -/
mutual
def uptoBulk {H : Type} : DataW H → Nat
  | .lit (.string bytes) => bytes.length + 1
  | .lit _ => 1
  | .nil => 1
  | .ptr d => uptoBulk d + 1
  | .slice elems spare => uptoBulkAll elems + uptoBulkAll spare + 1
  | .agg parts => uptoBulkAll parts + 1
  | .iface _ d => uptoBulk d + 1
  | .map entries => uptoBulkEntries entries + 1
  | .held _ => 1
def uptoBulkAll {H : Type} : List (DataW H) → Nat
  | [] => 0
  | d :: r => uptoBulk d + uptoBulkAll r
def uptoBulkEntries {H : Type} : List (Lit × DataW H) → Nat
  | [] => 0
  | x :: r => uptoBulkEntry x + uptoBulkEntries r
def uptoBulkEntry {H : Type} : Lit × DataW H → Nat
  | (.string bytes, d) => bytes.length + uptoBulk d + 1
  | (_, d) => uptoBulk d + 1
 end
def uptoSmall : (H : Type) → List (DataW H) → Bool := fun _ ds => decide (uptoBulkAll ds ≤ 1048576)
def OpenSpec.upto (s : _root_.Go.ChangeSpec) : _root_.Go.OpenSpec := { _root_.Go.OpenSpec.ofChange s with cond := some uptoSmall }

/-- 'laws.FnExactIsLead', WHERE WHAT IT READS IS OF BULK AT MOST 1048576: true; the input reads as it did. -/
def fnExactIsLeadUptoRow : OpenClaim := { program := "ytjmkcdgcjhnldaa", sum := "728ac9c9c8fa1000b3be257fc4efde274cad699167f001976a986cd607563c41", func := "loop.example/g00933/laws.FnExactIsLead", spec := "fnExactIsLead", apart := false, narrowed := true }
def FnExactIsLeadUptoSaid : Prop := fnExactIsLeadUptoRow.holds Try.pinned (OpenSpec.upto fnExactIsLeadSpec)

/-- 'laws.FnExactIsTrip', WHERE WHAT IT READS IS OF BULK AT MOST 1048576: true; the input reads as it did. -/
def fnExactIsTripUptoRow : OpenClaim := { program := "ytjmkcdgcjhnldaa", sum := "728ac9c9c8fa1000b3be257fc4efde274cad699167f001976a986cd607563c41", func := "loop.example/g00933/laws.FnExactIsTrip", spec := "fnExactIsTrip", apart := false, narrowed := true }
def FnExactIsTripUptoSaid : Prop := fnExactIsTripUptoRow.holds Try.pinned (OpenSpec.upto fnExactIsTripSpec)

/-- 'laws.FnExactTimeLeft', WHERE WHAT IT READS IS OF BULK AT MOST 1048576: true; the input reads as it did. -/
def fnExactTimeLeftUptoRow : OpenClaim := { program := "ytjmkcdgcjhnldaa", sum := "728ac9c9c8fa1000b3be257fc4efde274cad699167f001976a986cd607563c41", func := "loop.example/g00933/laws.FnExactTimeLeft", spec := "fnExactTimeLeft", apart := false, narrowed := true }
def FnExactTimeLeftUptoSaid : Prop := fnExactTimeLeftUptoRow.holds Try.pinned (OpenSpec.upto fnExactTimeLeftSpec)

/-- 'laws.FnExactIsRenaming', WHERE WHAT IT READS IS OF BULK AT MOST 1048576: true; the input reads as it did. -/
def fnExactIsRenamingUptoRow : OpenClaim := { program := "ytjmkcdgcjhnldaa", sum := "728ac9c9c8fa1000b3be257fc4efde274cad699167f001976a986cd607563c41", func := "loop.example/g00933/laws.FnExactIsRenaming", spec := "fnExactIsRenaming", apart := false, narrowed := true }
def FnExactIsRenamingUptoSaid : Prop := fnExactIsRenamingUptoRow.holds Try.pinned (OpenSpec.upto fnExactIsRenamingSpec)

/-- 'laws.FnExactAreReadings', WHERE WHAT IT READS IS OF BULK AT MOST 1048576: true; the input reads as it did. -/
def fnExactAreReadingsUptoRow : OpenClaim := { program := "ytjmkcdgcjhnldaa", sum := "728ac9c9c8fa1000b3be257fc4efde274cad699167f001976a986cd607563c41", func := "loop.example/g00933/laws.FnExactAreReadings", spec := "fnExactAreReadings", apart := false, narrowed := true }
def FnExactAreReadingsUptoSaid : Prop := fnExactAreReadingsUptoRow.holds Try.pinned (OpenSpec.upto fnExactAreReadingsSpec)

/-- 'laws.FnExactAreSumps', WHERE WHAT IT READS IS OF BULK AT MOST 1048576: true; the input reads as it did. -/
def fnExactAreSumpsUptoRow : OpenClaim := { program := "ytjmkcdgcjhnldaa", sum := "728ac9c9c8fa1000b3be257fc4efde274cad699167f001976a986cd607563c41", func := "loop.example/g00933/laws.FnExactAreSumps", spec := "fnExactAreSumps", apart := false, narrowed := true }
def FnExactAreSumpsUptoSaid : Prop := fnExactAreSumpsUptoRow.holds Try.pinned (OpenSpec.upto fnExactAreSumpsSpec)

/-- 'laws.FnExactAreLeads', WHERE WHAT IT READS IS OF BULK AT MOST 1048576: true; the input reads as it did. -/
def fnExactAreLeadsUptoRow : OpenClaim := { program := "ytjmkcdgcjhnldaa", sum := "728ac9c9c8fa1000b3be257fc4efde274cad699167f001976a986cd607563c41", func := "loop.example/g00933/laws.FnExactAreLeads", spec := "fnExactAreLeads", apart := false, narrowed := true }
def FnExactAreLeadsUptoSaid : Prop := fnExactAreLeadsUptoRow.holds Try.pinned (OpenSpec.upto fnExactAreLeadsSpec)

end Rows
end Go.Proofs.Ytjmkcdgcjhnldaa

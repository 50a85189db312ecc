/-
  No cell of these rows narrows 'for every input' (looked for: loops, veiled, ifaces, maps, wideKeys, modest, calm, conditions, laid).
  DERIVED. THE GIVEN ROWS OF THIS SEAT. 6 by the template 'for every input the law returns true; each argument reads behind the call as it read before'; 0 by the template 'total and deterministic' (their statements: YtmfidodcpbochaaTotals.lean).
  GIVEN WITH THE SEED: the statements are not yours to turn. If you find one false, say at which input.
  Laid BY PROGRAM, IN A SANDBOX (cutbox-rows.mjs): the forced cells as the released guide's own fill.sh prints them over the translation a2260d4e87c46541… (all of the seat's roots in one cut). By AI agents, Wed Nov 11 2026. No macro, syntax, notation, axiom, sorry.
-/
import Derived.Test.YtmfidodcpbochaaChecked
import GoSem.Claim
import GoSem.ClaimJoined
import GoSem.ClaimMapViews
import Derived.JoinedTies
import Derived.KernelRfl
namespace Go.Proofs.Ytmfidodcpbochaa
/- THE CELL 'sum', in the pinned program and in every row, IS THE sha256 OF THE DUMP (.gsa) THAT YtmfidodcpbochaaProg.lean LOADS. Nothing in Lean hashes anything: it is a label: what it is worth is what the hold of that sum in a sandbox is worth. -/
noncomputable def Try.pinned : Pinned := { name := "ytmfidodcpbochaa", sum := "a2260d4e87c4654103719508896a5325c9c05355f7475f7aba721b2cd0bc40a8", checked := Try.checked }
namespace Rows
def none {H : Type} : Left H := { results := [], args := [] }

/-- 'laws.FnExactAreReadings': WHATEVER THE INPUT: true; the input reads as it did. -/
def fnExactAreReadingsSpec : ChangeSpec := { name := "fnExactAreReadings", fn := fun _ => fun
  | [d] => { results := [.lit (.bool true)], args := [d] }
  | _ => none }
def fnExactAreReadingsRow : OpenClaim := { program := "ytmfidodcpbochaa", sum := "a2260d4e87c4654103719508896a5325c9c05355f7475f7aba721b2cd0bc40a8", func := "loop.example/g00933/laws.FnExactAreReadings", spec := "fnExactAreReadings", apart := false }
def FnExactAreReadingsSaid : Prop := fnExactAreReadingsRow.holds Try.pinned (OpenSpec.ofChange fnExactAreReadingsSpec)

/-- ITS FALSE NEIGHBOUR: 'it returns false'. Refute it at one input. -/
def fnExactAreReadingsWrong : ChangeSpec := { name := "fnExactAreReadings", fn := fun _ => fun
  | [d] => { results := [.lit (.bool false)], args := [d] }
  | _ => none }
def FnExactAreReadingsWrongFalsely : Prop := fnExactAreReadingsRow.holds Try.pinned (OpenSpec.ofChange fnExactAreReadingsWrong)

/-- 'laws.FnExactAreSumps': WHATEVER THE INPUT: true; the input reads as it did. -/
def fnExactAreSumpsSpec : ChangeSpec := { name := "fnExactAreSumps", fn := fun _ => fun
  | [d] => { results := [.lit (.bool true)], args := [d] }
  | _ => none }
def fnExactAreSumpsRow : OpenClaim := { program := "ytmfidodcpbochaa", sum := "a2260d4e87c4654103719508896a5325c9c05355f7475f7aba721b2cd0bc40a8", func := "loop.example/g00933/laws.FnExactAreSumps", spec := "fnExactAreSumps", apart := false }
def FnExactAreSumpsSaid : Prop := fnExactAreSumpsRow.holds Try.pinned (OpenSpec.ofChange fnExactAreSumpsSpec)

/-- ITS FALSE NEIGHBOUR: 'it returns false'. Refute it at one input. -/
def fnExactAreSumpsWrong : ChangeSpec := { name := "fnExactAreSumps", fn := fun _ => fun
  | [d] => { results := [.lit (.bool false)], args := [d] }
  | _ => none }
def FnExactAreSumpsWrongFalsely : Prop := fnExactAreSumpsRow.holds Try.pinned (OpenSpec.ofChange fnExactAreSumpsWrong)

/-- 'laws.FnExactHighestReading': WHATEVER THE INPUT: true; the input reads as it did. -/
def fnExactHighestReadingSpec : ChangeSpec := { name := "fnExactHighestReading", fn := fun _ => fun
  | [d] => { results := [.lit (.bool true)], args := [d] }
  | _ => none }
def fnExactHighestReadingRow : OpenClaim := { program := "ytmfidodcpbochaa", sum := "a2260d4e87c4654103719508896a5325c9c05355f7475f7aba721b2cd0bc40a8", func := "loop.example/g00933/laws.FnExactHighestReading", spec := "fnExactHighestReading", apart := false }
def FnExactHighestReadingSaid : Prop := fnExactHighestReadingRow.holds Try.pinned (OpenSpec.ofChange fnExactHighestReadingSpec)

/-- ITS FALSE NEIGHBOUR: 'it returns false'. Refute it at one input. -/
def fnExactHighestReadingWrong : ChangeSpec := { name := "fnExactHighestReading", fn := fun _ => fun
  | [d] => { results := [.lit (.bool false)], args := [d] }
  | _ => none }
def FnExactHighestReadingWrongFalsely : Prop := fnExactHighestReadingRow.holds Try.pinned (OpenSpec.ofChange fnExactHighestReadingWrong)

/-- 'laws.FnExactFastestRise': WHATEVER THE INPUT: true; the input reads as it did. -/
def fnExactFastestRiseSpec : ChangeSpec := { name := "fnExactFastestRise", fn := fun _ => fun
  | [d] => { results := [.lit (.bool true)], args := [d] }
  | _ => none }
def fnExactFastestRiseRow : OpenClaim := { program := "ytmfidodcpbochaa", sum := "a2260d4e87c4654103719508896a5325c9c05355f7475f7aba721b2cd0bc40a8", func := "loop.example/g00933/laws.FnExactFastestRise", spec := "fnExactFastestRise", apart := false }
def FnExactFastestRiseSaid : Prop := fnExactFastestRiseRow.holds Try.pinned (OpenSpec.ofChange fnExactFastestRiseSpec)

/-- ITS FALSE NEIGHBOUR: 'it returns false'. Refute it at one input. -/
def fnExactFastestRiseWrong : ChangeSpec := { name := "fnExactFastestRise", fn := fun _ => fun
  | [d] => { results := [.lit (.bool false)], args := [d] }
  | _ => none }
def FnExactFastestRiseWrongFalsely : Prop := fnExactFastestRiseRow.holds Try.pinned (OpenSpec.ofChange fnExactFastestRiseWrong)

/-- 'laws.FnExactLevelIn': WHATEVER THE INPUT: true; the input reads as it did. -/
def fnExactLevelInSpec : ChangeSpec := { name := "fnExactLevelIn", fn := fun _ => fun
  | [d1, d2] => { results := [.lit (.bool true)], args := [d1, d2] }
  | _ => none }
def fnExactLevelInRow : OpenClaim := { program := "ytmfidodcpbochaa", sum := "a2260d4e87c4654103719508896a5325c9c05355f7475f7aba721b2cd0bc40a8", func := "loop.example/g00933/laws.FnExactLevelIn", spec := "fnExactLevelIn", apart := false }
def FnExactLevelInSaid : Prop := fnExactLevelInRow.holds Try.pinned (OpenSpec.ofChange fnExactLevelInSpec)

/-- ITS FALSE NEIGHBOUR: 'it returns false'. Refute it at one input. -/
def fnExactLevelInWrong : ChangeSpec := { name := "fnExactLevelIn", fn := fun _ => fun
  | [d1, d2] => { results := [.lit (.bool false)], args := [d1, d2] }
  | _ => none }
def FnExactLevelInWrongFalsely : Prop := fnExactLevelInRow.holds Try.pinned (OpenSpec.ofChange fnExactLevelInWrong)

/-- 'laws.FnExactCutStations': WHATEVER THE INPUT: true; the input reads as it did. -/
def fnExactCutStationsSpec : ChangeSpec := { name := "fnExactCutStations", fn := fun _ => fun
  | [d] => { results := [.lit (.bool true)], args := [d] }
  | _ => none }
def fnExactCutStationsRow : OpenClaim := { program := "ytmfidodcpbochaa", sum := "a2260d4e87c4654103719508896a5325c9c05355f7475f7aba721b2cd0bc40a8", func := "loop.example/g00933/laws.FnExactCutStations", spec := "fnExactCutStations", unfollowed := true, recurses := true, apart := false }
def FnExactCutStationsSaid : Prop := fnExactCutStationsRow.holds Try.pinned (OpenSpec.ofChange fnExactCutStationsSpec)

/-- ITS FALSE NEIGHBOUR: 'it returns false'. Refute it at one input. -/
def fnExactCutStationsWrong : ChangeSpec := { name := "fnExactCutStations", fn := fun _ => fun
  | [d] => { results := [.lit (.bool false)], args := [d] }
  | _ => none }
def FnExactCutStationsWrongFalsely : Prop := fnExactCutStationsRow.holds Try.pinned (OpenSpec.ofChange fnExactCutStationsWrong)

/- THE SECOND FORM. 'bulk': how many values and letters a reading holds, each counted each time it is reached (what is shared counts as often as it is met; a slice's spare places count too). A statement '..UptoSaid' is the law's where the arguments, and the package variables that the reading takes, are together of bulk at most 1048576: NARROWER than '..Said'. Prove '..Said' where nothing that the law and all that it calls make is longer than what came in: it says more and counts as full. Else prove '..UptoSaid'. A law counts once. -/
mutual
def uptoBulk {H : Type} : DataW H → Nat
  | .lit (.string bytes) => bytes.length + 1
  | .lit _ => 1
  | .nil => 1
  | .ptr d => uptoBulk d + 1
  | .slice elems spare => uptoBulkAll elems + uptoBulkAll spare + 1
  | .agg parts => uptoBulkAll parts + 1
  | .iface _ d => uptoBulk d + 1
  | .map entries => uptoBulkEntries entries + 1
  | .held _ => 1
def uptoBulkAll {H : Type} : List (DataW H) → Nat
  | [] => 0
  | d :: r => uptoBulk d + uptoBulkAll r
def uptoBulkEntries {H : Type} : List (Lit × DataW H) → Nat
  | [] => 0
  | x :: r => uptoBulkEntry x + uptoBulkEntries r
def uptoBulkEntry {H : Type} : Lit × DataW H → Nat
  | (.string bytes, d) => bytes.length + uptoBulk d + 1
  | (_, d) => uptoBulk d + 1
 end
def uptoSmall : (H : Type) → List (DataW H) → Bool := fun _ ds => decide (uptoBulkAll ds ≤ 1048576)
def OpenSpec.upto (s : _root_.Go.ChangeSpec) : _root_.Go.OpenSpec := { _root_.Go.OpenSpec.ofChange s with cond := some uptoSmall }

/-- 'laws.FnExactAreReadings', WHERE WHAT IT READS IS OF BULK AT MOST 1048576: true; the input reads as it did. -/
def fnExactAreReadingsUptoRow : OpenClaim := { program := "ytmfidodcpbochaa", sum := "a2260d4e87c4654103719508896a5325c9c05355f7475f7aba721b2cd0bc40a8", func := "loop.example/g00933/laws.FnExactAreReadings", spec := "fnExactAreReadings", apart := false, narrowed := true }
def FnExactAreReadingsUptoSaid : Prop := fnExactAreReadingsUptoRow.holds Try.pinned (OpenSpec.upto fnExactAreReadingsSpec)

/-- 'laws.FnExactAreSumps', WHERE WHAT IT READS IS OF BULK AT MOST 1048576: true; the input reads as it did. -/
def fnExactAreSumpsUptoRow : OpenClaim := { program := "ytmfidodcpbochaa", sum := "a2260d4e87c4654103719508896a5325c9c05355f7475f7aba721b2cd0bc40a8", func := "loop.example/g00933/laws.FnExactAreSumps", spec := "fnExactAreSumps", apart := false, narrowed := true }
def FnExactAreSumpsUptoSaid : Prop := fnExactAreSumpsUptoRow.holds Try.pinned (OpenSpec.upto fnExactAreSumpsSpec)

/-- 'laws.FnExactHighestReading', WHERE WHAT IT READS IS OF BULK AT MOST 1048576: true; the input reads as it did. -/
def fnExactHighestReadingUptoRow : OpenClaim := { program := "ytmfidodcpbochaa", sum := "a2260d4e87c4654103719508896a5325c9c05355f7475f7aba721b2cd0bc40a8", func := "loop.example/g00933/laws.FnExactHighestReading", spec := "fnExactHighestReading", apart := false, narrowed := true }
def FnExactHighestReadingUptoSaid : Prop := fnExactHighestReadingUptoRow.holds Try.pinned (OpenSpec.upto fnExactHighestReadingSpec)

/-- 'laws.FnExactFastestRise', WHERE WHAT IT READS IS OF BULK AT MOST 1048576: true; the input reads as it did. -/
def fnExactFastestRiseUptoRow : OpenClaim := { program := "ytmfidodcpbochaa", sum := "a2260d4e87c4654103719508896a5325c9c05355f7475f7aba721b2cd0bc40a8", func := "loop.example/g00933/laws.FnExactFastestRise", spec := "fnExactFastestRise", apart := false, narrowed := true }
def FnExactFastestRiseUptoSaid : Prop := fnExactFastestRiseUptoRow.holds Try.pinned (OpenSpec.upto fnExactFastestRiseSpec)

/-- 'laws.FnExactLevelIn', WHERE WHAT IT READS IS OF BULK AT MOST 1048576: true; the input reads as it did. -/
def fnExactLevelInUptoRow : OpenClaim := { program := "ytmfidodcpbochaa", sum := "a2260d4e87c4654103719508896a5325c9c05355f7475f7aba721b2cd0bc40a8", func := "loop.example/g00933/laws.FnExactLevelIn", spec := "fnExactLevelIn", apart := false, narrowed := true }
def FnExactLevelInUptoSaid : Prop := fnExactLevelInUptoRow.holds Try.pinned (OpenSpec.upto fnExactLevelInSpec)

/-- 'laws.FnExactCutStations', WHERE WHAT IT READS IS OF BULK AT MOST 1048576: true; the input reads as it did. -/
def fnExactCutStationsUptoRow : OpenClaim := { program := "ytmfidodcpbochaa", sum := "a2260d4e87c4654103719508896a5325c9c05355f7475f7aba721b2cd0bc40a8", func := "loop.example/g00933/laws.FnExactCutStations", spec := "fnExactCutStations", unfollowed := true, recurses := true, apart := false, narrowed := true }
def FnExactCutStationsUptoSaid : Prop := fnExactCutStationsUptoRow.holds Try.pinned (OpenSpec.upto fnExactCutStationsSpec)

end Rows
end Go.Proofs.Ytmfidodcpbochaa

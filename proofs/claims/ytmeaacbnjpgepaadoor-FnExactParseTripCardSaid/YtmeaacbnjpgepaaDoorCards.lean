/-
  DERIVED. GIVEN WITH THE SEED: THE CARDS: each row of YtmeaacbnjpgepaaDoorRows.lean that lists a variable, with what it lists TIED to the program's text (the seventh form; the later family's looks); each row that meets fmt, with fmt's text TOLD by the authors' own Lean function (tested against real Go, not proved from fmt's source: count such statements apart). THE CARD IS WHAT COUNTS. Prove the row's statement (the work); the ties are given (YtmeaacbnjpgepaaDoorTie.lean); close each card by the builder's one call (the guide's Derived/Test/ToyasCard.lean, 'card_holds'). Laid BY PROGRAM, IN A SANDBOX (cutbox-door.mjs). By AI agents, Wed Nov 11 2026. No macro, syntax, notation, axiom, sorry.
-/
import Derived.Test.YtmeaacbnjpgepaaDoorRows
import GoSem.ClaimSeven
namespace Go.Proofs.YtmeaacbnjpgepaaDoor
namespace Rows

/-- THE TIED CARD OF 'laws.FnExactTripText'. -/
def fnExactTripTextCard : Claim7 := { stood := { row := fnExactTripTextRow, standIns := [], harness := (true, "173ff21a7ec890d49dbe70f8b4965e8198039a93fbe32d026be6bbdf5ff384e9"), looks := true }, kinds := [], alts := [], laidByText := true, laidKinds := [.data, .data, .data, .widerDeep], laidTests := true, laidLooks := .later }
def FnExactTripTextCardSaid : Prop := Claim7.holds Tryd.pinned (.plain (OpenSpec.ofChange fnExactTripTextSpec)) fnExactTripTextCard

/-- THE TIED CARD OF 'laws.FnExactParseTrip'. -/
def fnExactParseTripCard : Claim7 := { stood := { row := fnExactParseTripRow, standIns := [], harness := (true, "173ff21a7ec890d49dbe70f8b4965e8198039a93fbe32d026be6bbdf5ff384e9"), looks := true }, kinds := [], alts := [], laidByText := true, laidKinds := [.data, .data, .data, .data, .sentinel, .sentinel, .widerDeep, .pinned], laidTests := true, laidLooks := .later }
def FnExactParseTripCardSaid : Prop := Claim7.holds Tryd.pinned (.plain (OpenSpec.ofChange fnExactParseTripSpec)) fnExactParseTripCard

/-- THE SECOND FORM's CARD OF 'laws.FnExactTripText'. -/
def fnExactTripTextUptoCard : Claim7 := { stood := { row := fnExactTripTextUptoRow, standIns := [], harness := (true, "173ff21a7ec890d49dbe70f8b4965e8198039a93fbe32d026be6bbdf5ff384e9"), looks := true }, kinds := [], alts := [], laidByText := true, laidKinds := [.data, .data, .data, .widerDeep], laidTests := true, laidLooks := .later }
def FnExactTripTextUptoCardSaid : Prop := Claim7.holds Tryd.pinned (.plain (OpenSpec.upto fnExactTripTextSpec)) fnExactTripTextUptoCard

/-- THE SECOND FORM's CARD OF 'laws.FnExactParseTrip'. -/
def fnExactParseTripUptoCard : Claim7 := { stood := { row := fnExactParseTripUptoRow, standIns := [], harness := (true, "173ff21a7ec890d49dbe70f8b4965e8198039a93fbe32d026be6bbdf5ff384e9"), looks := true }, kinds := [], alts := [], laidByText := true, laidKinds := [.data, .data, .data, .data, .sentinel, .sentinel, .widerDeep, .pinned], laidTests := true, laidLooks := .later }
def FnExactParseTripUptoCardSaid : Prop := Claim7.holds Tryd.pinned (.plain (OpenSpec.upto fnExactParseTripSpec)) fnExactParseTripUptoCard
end Rows
end Go.Proofs.YtmeaacbnjpgepaaDoor

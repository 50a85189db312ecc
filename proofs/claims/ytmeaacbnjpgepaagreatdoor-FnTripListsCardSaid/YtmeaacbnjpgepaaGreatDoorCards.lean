/-
  DERIVED. GIVEN WITH THE SEED: THE CARDS: each row of YtmeaacbnjpgepaaGreatDoorRows.lean that lists a variable, with what it lists TIED to the program's text (the seventh form; the later family's looks); each row that meets fmt, with fmt's text TOLD by the authors' own Lean function (tested against real Go, not proved from fmt's source: count such statements apart). THE CARD IS WHAT COUNTS. Prove the row's statement (the work); the ties are given (YtmeaacbnjpgepaaGreatDoorTie.lean); close each card by the builder's one call (the guide's Derived/Test/ToyasCard.lean, 'card_holds'). Laid BY PROGRAM, IN A SANDBOX (cutbox-door.mjs). By AI agents, Wed Nov 11 2026. No macro, syntax, notation, axiom, sorry.
-/
import Derived.Test.YtmeaacbnjpgepaaGreatDoorRows
import GoSem.ClaimSeven
namespace Go.Proofs.YtmeaacbnjpgepaaGreatDoor
namespace Rows

/-- THE TIED CARD OF 'laws.FnTripLists'. -/
def fnTripListsCard : Claim7 := { stood := { row := fnTripListsRow, standIns := [], harness := (true, "627dca17764fdd982f921c0069df3b5b222d52a9588cc087f48001a5c6f6c7bd"), looks := true }, kinds := [], alts := [], laidByText := true, laidKinds := [.data, .data, .data, .data, .sentinel, .sentinel, .widerDeep, .pinned], laidTests := true, laidLooks := .later }
def FnTripListsCardSaid : Prop := Claim7.holds Tryz.pinned (.plain (OpenSpec.ofChange fnTripListsSpec)) fnTripListsCard

/-- THE SECOND FORM's CARD OF 'laws.FnTripLists'. -/
def fnTripListsUptoCard : Claim7 := { stood := { row := fnTripListsUptoRow, standIns := [], harness := (true, "627dca17764fdd982f921c0069df3b5b222d52a9588cc087f48001a5c6f6c7bd"), looks := true }, kinds := [], alts := [], laidByText := true, laidKinds := [.data, .data, .data, .data, .sentinel, .sentinel, .widerDeep, .pinned], laidTests := true, laidLooks := .later }
def FnTripListsUptoCardSaid : Prop := Claim7.holds Tryz.pinned (.plain (OpenSpec.upto fnTripListsSpec)) fnTripListsUptoCard
end Rows
end Go.Proofs.YtmeaacbnjpgepaaGreatDoor

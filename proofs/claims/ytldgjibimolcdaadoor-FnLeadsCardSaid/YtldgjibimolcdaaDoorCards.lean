/-
  DERIVED. GIVEN WITH THE SEED: THE CARDS: each row of YtldgjibimolcdaaDoorRows.lean that lists a variable, with what it lists TIED to the program's text (the seventh form; the later family's looks); each row that meets fmt, with fmt's text TOLD by the authors' own Lean function (tested against real Go, not proved from fmt's source: count such statements apart). THE CARD IS WHAT COUNTS. Prove the row's statement (the work); the ties are given (YtldgjibimolcdaaDoorTie.lean); close each card by the builder's one call (the guide's Derived/Test/ToyasCard.lean, 'card_holds'). Laid BY PROGRAM, IN A SANDBOX (cutbox-door.mjs). By AI agents, Wed Nov 11 2026. No macro, syntax, notation, axiom, sorry.
-/
import Derived.Test.YtldgjibimolcdaaDoorRows
import GoSem.ClaimSeven
namespace Go.Proofs.YtldgjibimolcdaaDoor
namespace Rows

/-- THE TIED CARD OF 'laws.FnExactLeadText'. -/
def fnExactLeadTextCard : Claim7 := { stood := { row := fnExactLeadTextRow, standIns := [], harness := (true, "9ef9f3f254d3023ddc949cf99312fe69a3539ad969b4a4e1ec8e84795364375f"), looks := true }, kinds := [], alts := [], laidByText := true, laidKinds := [.data, .data, .data, .widerDeep], laidTests := true, laidLooks := .later }
def FnExactLeadTextCardSaid : Prop := Claim7.holds Tryd.pinned (.plain (OpenSpec.ofChange fnExactLeadTextSpec)) fnExactLeadTextCard

/-- THE TIED CARD OF 'laws.FnExactParseLead'. -/
def fnExactParseLeadCard : Claim7 := { stood := { row := fnExactParseLeadRow, standIns := [], harness := (true, "9ef9f3f254d3023ddc949cf99312fe69a3539ad969b4a4e1ec8e84795364375f"), looks := true }, kinds := [], alts := [], laidByText := true, laidKinds := [.data, .data, .data, .data, .sentinel, .sentinel, .widerDeep, .pinned], laidTests := true, laidLooks := .later }
def FnExactParseLeadCardSaid : Prop := Claim7.holds Tryd.pinned (.plain (OpenSpec.ofChange fnExactParseLeadSpec)) fnExactParseLeadCard

/-- THE TIED CARD OF 'laws.FnLeads'. -/
def fnLeadsCard : Claim7 := { stood := { row := fnLeadsRow, standIns := [], harness := (true, "9ef9f3f254d3023ddc949cf99312fe69a3539ad969b4a4e1ec8e84795364375f"), looks := true }, kinds := [], alts := [], laidByText := true, laidKinds := [.data, .data, .data, .data, .sentinel, .sentinel, .widerDeep, .pinned], laidTests := true, laidLooks := .later }
def FnLeadsCardSaid : Prop := Claim7.holds Tryd.pinned (.plain (OpenSpec.ofChange fnLeadsSpec)) fnLeadsCard

/-- THE SECOND FORM's CARD OF 'laws.FnExactLeadText'. -/
def fnExactLeadTextUptoCard : Claim7 := { stood := { row := fnExactLeadTextUptoRow, standIns := [], harness := (true, "9ef9f3f254d3023ddc949cf99312fe69a3539ad969b4a4e1ec8e84795364375f"), looks := true }, kinds := [], alts := [], laidByText := true, laidKinds := [.data, .data, .data, .widerDeep], laidTests := true, laidLooks := .later }
def FnExactLeadTextUptoCardSaid : Prop := Claim7.holds Tryd.pinned (.plain (OpenSpec.upto fnExactLeadTextSpec)) fnExactLeadTextUptoCard

/-- THE SECOND FORM's CARD OF 'laws.FnExactParseLead'. -/
def fnExactParseLeadUptoCard : Claim7 := { stood := { row := fnExactParseLeadUptoRow, standIns := [], harness := (true, "9ef9f3f254d3023ddc949cf99312fe69a3539ad969b4a4e1ec8e84795364375f"), looks := true }, kinds := [], alts := [], laidByText := true, laidKinds := [.data, .data, .data, .data, .sentinel, .sentinel, .widerDeep, .pinned], laidTests := true, laidLooks := .later }
def FnExactParseLeadUptoCardSaid : Prop := Claim7.holds Tryd.pinned (.plain (OpenSpec.upto fnExactParseLeadSpec)) fnExactParseLeadUptoCard

/-- THE SECOND FORM's CARD OF 'laws.FnLeads'. -/
def fnLeadsUptoCard : Claim7 := { stood := { row := fnLeadsUptoRow, standIns := [], harness := (true, "9ef9f3f254d3023ddc949cf99312fe69a3539ad969b4a4e1ec8e84795364375f"), looks := true }, kinds := [], alts := [], laidByText := true, laidKinds := [.data, .data, .data, .data, .sentinel, .sentinel, .widerDeep, .pinned], laidTests := true, laidLooks := .later }
def FnLeadsUptoCardSaid : Prop := Claim7.holds Tryd.pinned (.plain (OpenSpec.upto fnLeadsSpec)) fnLeadsUptoCard
end Rows
end Go.Proofs.YtldgjibimolcdaaDoor

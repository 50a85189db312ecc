/-
  DERIVED. GIVEN WITH THE SEED: THE CARDS: each row of YtgeioccfjgpijaaDoorRows.lean that lists a variable, with what it lists TIED to the program's text (the seventh form; the later family's looks); each row that meets fmt, with fmt's text TOLD by the authors' own Lean function (tested against real Go, not proved from fmt's source: count such statements apart). THE CARD IS WHAT COUNTS. Prove the row's statement (the work); the ties are given (YtgeioccfjgpijaaDoorTie.lean); close each card by the builder's one call (the guide's Derived/Test/ToyasCard.lean, 'card_holds'). Laid BY PROGRAM, IN A SANDBOX (cutbox-door.mjs). By AI agents, Wed Nov 11 2026. No macro, syntax, notation, axiom, sorry.
-/
import Derived.Test.YtgeioccfjgpijaaDoorRows
import GoSem.ClaimSeven
namespace Go.Proofs.YtgeioccfjgpijaaDoor
namespace Rows

/-- THE TIED CARD OF 'laws.FnExactIsPermit'. -/
def fnExactIsPermitCard : Claim7 := { stood := { row := fnExactIsPermitRow, standIns := [], harness := (true, "7e7199dd7e821a9d05405b1515a2637a5d488008602bbec86137eb7f1acc93dc"), looks := false }, kinds := [], alts := [], laidByText := true, laidKinds := [.data, .pinned], laidTests := true, laidLooks := .later }
def FnExactIsPermitCardSaid : Prop := Claim7.holds Tryd.pinned (.plain (OpenSpec.ofChange fnExactIsPermitSpec)) fnExactIsPermitCard

/-- THE TIED CARD OF 'laws.FnExactArePermits'. -/
def fnExactArePermitsCard : Claim7 := { stood := { row := fnExactArePermitsRow, standIns := [], harness := (true, "7e7199dd7e821a9d05405b1515a2637a5d488008602bbec86137eb7f1acc93dc"), looks := false }, kinds := [], alts := [], laidByText := true, laidKinds := [.data, .pinned], laidTests := true, laidLooks := .later }
def FnExactArePermitsCardSaid : Prop := Claim7.holds Tryd.pinned (.plain (OpenSpec.ofChange fnExactArePermitsSpec)) fnExactArePermitsCard

/-- THE TIED CARD OF 'laws.FnExactAllowedOn'. -/
def fnExactAllowedOnCard : Claim7 := { stood := { row := fnExactAllowedOnRow, standIns := [], harness := (true, "7e7199dd7e821a9d05405b1515a2637a5d488008602bbec86137eb7f1acc93dc"), looks := false }, kinds := [], alts := [], laidByText := true, laidKinds := [.data, .pinned], laidTests := true, laidLooks := .later }
def FnExactAllowedOnCardSaid : Prop := Claim7.holds Tryd.pinned (.plain (OpenSpec.ofChange fnExactAllowedOnSpec)) fnExactAllowedOnCard

/-- THE TIED CARD OF 'laws.FnExactFirstSlot'. -/
def fnExactFirstSlotCard : Claim7 := { stood := { row := fnExactFirstSlotRow, standIns := [], harness := (true, "7e7199dd7e821a9d05405b1515a2637a5d488008602bbec86137eb7f1acc93dc"), looks := false }, kinds := [], alts := [], laidByText := true, laidKinds := [.data, .pinned], laidTests := true, laidLooks := .later }
def FnExactFirstSlotCardSaid : Prop := Claim7.holds Tryd.pinned (.plain (OpenSpec.ofChange fnExactFirstSlotSpec)) fnExactFirstSlotCard

/-- THE TIED CARD OF 'laws.FnExactAskPermit'. -/
def fnExactAskPermitCard : Claim7 := { stood := { row := fnExactAskPermitRow, standIns := [], harness := (true, "7e7199dd7e821a9d05405b1515a2637a5d488008602bbec86137eb7f1acc93dc"), looks := false }, kinds := [], alts := [], laidByText := true, laidKinds := [.data, .pinned], laidTests := true, laidLooks := .later }
def FnExactAskPermitCardSaid : Prop := Claim7.holds Tryd.pinned (.plain (OpenSpec.ofChange fnExactAskPermitSpec)) fnExactAskPermitCard

/-- THE TIED CARD OF 'laws.FnExactLapsePermits'. -/
def fnExactLapsePermitsCard : Claim7 := { stood := { row := fnExactLapsePermitsRow, standIns := [], harness := (true, "7e7199dd7e821a9d05405b1515a2637a5d488008602bbec86137eb7f1acc93dc"), looks := false }, kinds := [], alts := [], laidByText := true, laidKinds := [.data, .pinned], laidTests := true, laidLooks := .later }
def FnExactLapsePermitsCardSaid : Prop := Claim7.holds Tryd.pinned (.plain (OpenSpec.ofChange fnExactLapsePermitsSpec)) fnExactLapsePermitsCard

/-- THE TIED CARD OF 'laws.FnExactUsePermit'. -/
def fnExactUsePermitCard : Claim7 := { stood := { row := fnExactUsePermitRow, standIns := [], harness := (true, "7e7199dd7e821a9d05405b1515a2637a5d488008602bbec86137eb7f1acc93dc"), looks := false }, kinds := [], alts := [], laidByText := true, laidKinds := [.data, .pinned], laidTests := true, laidLooks := .later }
def FnExactUsePermitCardSaid : Prop := Claim7.holds Tryd.pinned (.plain (OpenSpec.ofChange fnExactUsePermitSpec)) fnExactUsePermitCard

/-- THE TIED CARD OF 'laws.FnExactDecidePermit'. -/
def fnExactDecidePermitCard : Claim7 := { stood := { row := fnExactDecidePermitRow, standIns := [], harness := (true, "7e7199dd7e821a9d05405b1515a2637a5d488008602bbec86137eb7f1acc93dc"), looks := false }, kinds := [], alts := [], laidByText := true, laidKinds := [.data, .pinned], laidTests := true, laidLooks := .later }
def FnExactDecidePermitCardSaid : Prop := Claim7.holds Tryd.pinned (.plain (OpenSpec.ofChange fnExactDecidePermitSpec)) fnExactDecidePermitCard

/-- THE TIED CARD OF 'laws.FnExactFreeDays'. -/
def fnExactFreeDaysCard : Claim7 := { stood := { row := fnExactFreeDaysRow, standIns := [], harness := (true, "7e7199dd7e821a9d05405b1515a2637a5d488008602bbec86137eb7f1acc93dc"), looks := false }, kinds := [], alts := [], laidByText := true, laidKinds := [.data, .pinned], laidTests := true, laidLooks := .later }
def FnExactFreeDaysCardSaid : Prop := Claim7.holds Tryd.pinned (.plain (OpenSpec.ofChange fnExactFreeDaysSpec)) fnExactFreeDaysCard

/-- THE TIED CARD OF 'laws.FnPermits'. -/
def fnPermitsCard : Claim7 := { stood := { row := fnPermitsRow, standIns := [], harness := (true, "7e7199dd7e821a9d05405b1515a2637a5d488008602bbec86137eb7f1acc93dc"), looks := false }, kinds := [], alts := [], laidByText := true, laidKinds := [.data, .pinned], laidTests := true, laidLooks := .later }
def FnPermitsCardSaid : Prop := Claim7.holds Tryd.pinned (.plain (OpenSpec.ofChange fnPermitsSpec)) fnPermitsCard

/-- THE TIED CARD OF 'laws.FnPermitDays'. -/
def fnPermitDaysCard : Claim7 := { stood := { row := fnPermitDaysRow, standIns := [], harness := (true, "7e7199dd7e821a9d05405b1515a2637a5d488008602bbec86137eb7f1acc93dc"), looks := false }, kinds := [], alts := [], laidByText := true, laidKinds := [.data, .pinned], laidTests := true, laidLooks := .later }
def FnPermitDaysCardSaid : Prop := Claim7.holds Tryd.pinned (.plain (OpenSpec.ofChange fnPermitDaysSpec)) fnPermitDaysCard

/-- THE SECOND FORM's CARD OF 'laws.FnExactIsPermit'. -/
def fnExactIsPermitUptoCard : Claim7 := { stood := { row := fnExactIsPermitUptoRow, standIns := [], harness := (true, "7e7199dd7e821a9d05405b1515a2637a5d488008602bbec86137eb7f1acc93dc"), looks := false }, kinds := [], alts := [], laidByText := true, laidKinds := [.data, .pinned], laidTests := true, laidLooks := .later }
def FnExactIsPermitUptoCardSaid : Prop := Claim7.holds Tryd.pinned (.plain (OpenSpec.upto fnExactIsPermitSpec)) fnExactIsPermitUptoCard

/-- THE SECOND FORM's CARD OF 'laws.FnExactArePermits'. -/
def fnExactArePermitsUptoCard : Claim7 := { stood := { row := fnExactArePermitsUptoRow, standIns := [], harness := (true, "7e7199dd7e821a9d05405b1515a2637a5d488008602bbec86137eb7f1acc93dc"), looks := false }, kinds := [], alts := [], laidByText := true, laidKinds := [.data, .pinned], laidTests := true, laidLooks := .later }
def FnExactArePermitsUptoCardSaid : Prop := Claim7.holds Tryd.pinned (.plain (OpenSpec.upto fnExactArePermitsSpec)) fnExactArePermitsUptoCard

/-- THE SECOND FORM's CARD OF 'laws.FnExactAllowedOn'. -/
def fnExactAllowedOnUptoCard : Claim7 := { stood := { row := fnExactAllowedOnUptoRow, standIns := [], harness := (true, "7e7199dd7e821a9d05405b1515a2637a5d488008602bbec86137eb7f1acc93dc"), looks := false }, kinds := [], alts := [], laidByText := true, laidKinds := [.data, .pinned], laidTests := true, laidLooks := .later }
def FnExactAllowedOnUptoCardSaid : Prop := Claim7.holds Tryd.pinned (.plain (OpenSpec.upto fnExactAllowedOnSpec)) fnExactAllowedOnUptoCard

/-- THE SECOND FORM's CARD OF 'laws.FnExactFirstSlot'. -/
def fnExactFirstSlotUptoCard : Claim7 := { stood := { row := fnExactFirstSlotUptoRow, standIns := [], harness := (true, "7e7199dd7e821a9d05405b1515a2637a5d488008602bbec86137eb7f1acc93dc"), looks := false }, kinds := [], alts := [], laidByText := true, laidKinds := [.data, .pinned], laidTests := true, laidLooks := .later }
def FnExactFirstSlotUptoCardSaid : Prop := Claim7.holds Tryd.pinned (.plain (OpenSpec.upto fnExactFirstSlotSpec)) fnExactFirstSlotUptoCard

/-- THE SECOND FORM's CARD OF 'laws.FnExactAskPermit'. -/
def fnExactAskPermitUptoCard : Claim7 := { stood := { row := fnExactAskPermitUptoRow, standIns := [], harness := (true, "7e7199dd7e821a9d05405b1515a2637a5d488008602bbec86137eb7f1acc93dc"), looks := false }, kinds := [], alts := [], laidByText := true, laidKinds := [.data, .pinned], laidTests := true, laidLooks := .later }
def FnExactAskPermitUptoCardSaid : Prop := Claim7.holds Tryd.pinned (.plain (OpenSpec.upto fnExactAskPermitSpec)) fnExactAskPermitUptoCard

/-- THE SECOND FORM's CARD OF 'laws.FnExactLapsePermits'. -/
def fnExactLapsePermitsUptoCard : Claim7 := { stood := { row := fnExactLapsePermitsUptoRow, standIns := [], harness := (true, "7e7199dd7e821a9d05405b1515a2637a5d488008602bbec86137eb7f1acc93dc"), looks := false }, kinds := [], alts := [], laidByText := true, laidKinds := [.data, .pinned], laidTests := true, laidLooks := .later }
def FnExactLapsePermitsUptoCardSaid : Prop := Claim7.holds Tryd.pinned (.plain (OpenSpec.upto fnExactLapsePermitsSpec)) fnExactLapsePermitsUptoCard

/-- THE SECOND FORM's CARD OF 'laws.FnExactUsePermit'. -/
def fnExactUsePermitUptoCard : Claim7 := { stood := { row := fnExactUsePermitUptoRow, standIns := [], harness := (true, "7e7199dd7e821a9d05405b1515a2637a5d488008602bbec86137eb7f1acc93dc"), looks := false }, kinds := [], alts := [], laidByText := true, laidKinds := [.data, .pinned], laidTests := true, laidLooks := .later }
def FnExactUsePermitUptoCardSaid : Prop := Claim7.holds Tryd.pinned (.plain (OpenSpec.upto fnExactUsePermitSpec)) fnExactUsePermitUptoCard

/-- THE SECOND FORM's CARD OF 'laws.FnExactDecidePermit'. -/
def fnExactDecidePermitUptoCard : Claim7 := { stood := { row := fnExactDecidePermitUptoRow, standIns := [], harness := (true, "7e7199dd7e821a9d05405b1515a2637a5d488008602bbec86137eb7f1acc93dc"), looks := false }, kinds := [], alts := [], laidByText := true, laidKinds := [.data, .pinned], laidTests := true, laidLooks := .later }
def FnExactDecidePermitUptoCardSaid : Prop := Claim7.holds Tryd.pinned (.plain (OpenSpec.upto fnExactDecidePermitSpec)) fnExactDecidePermitUptoCard

/-- THE SECOND FORM's CARD OF 'laws.FnExactFreeDays'. -/
def fnExactFreeDaysUptoCard : Claim7 := { stood := { row := fnExactFreeDaysUptoRow, standIns := [], harness := (true, "7e7199dd7e821a9d05405b1515a2637a5d488008602bbec86137eb7f1acc93dc"), looks := false }, kinds := [], alts := [], laidByText := true, laidKinds := [.data, .pinned], laidTests := true, laidLooks := .later }
def FnExactFreeDaysUptoCardSaid : Prop := Claim7.holds Tryd.pinned (.plain (OpenSpec.upto fnExactFreeDaysSpec)) fnExactFreeDaysUptoCard

/-- THE SECOND FORM's CARD OF 'laws.FnPermits'. -/
def fnPermitsUptoCard : Claim7 := { stood := { row := fnPermitsUptoRow, standIns := [], harness := (true, "7e7199dd7e821a9d05405b1515a2637a5d488008602bbec86137eb7f1acc93dc"), looks := false }, kinds := [], alts := [], laidByText := true, laidKinds := [.data, .pinned], laidTests := true, laidLooks := .later }
def FnPermitsUptoCardSaid : Prop := Claim7.holds Tryd.pinned (.plain (OpenSpec.upto fnPermitsSpec)) fnPermitsUptoCard

/-- THE SECOND FORM's CARD OF 'laws.FnPermitDays'. -/
def fnPermitDaysUptoCard : Claim7 := { stood := { row := fnPermitDaysUptoRow, standIns := [], harness := (true, "7e7199dd7e821a9d05405b1515a2637a5d488008602bbec86137eb7f1acc93dc"), looks := false }, kinds := [], alts := [], laidByText := true, laidKinds := [.data, .pinned], laidTests := true, laidLooks := .later }
def FnPermitDaysUptoCardSaid : Prop := Claim7.holds Tryd.pinned (.plain (OpenSpec.upto fnPermitDaysSpec)) fnPermitDaysUptoCard
end Rows
end Go.Proofs.YtgeioccfjgpijaaDoor

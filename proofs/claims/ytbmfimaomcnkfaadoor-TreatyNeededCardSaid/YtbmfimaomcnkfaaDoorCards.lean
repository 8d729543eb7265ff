/-
  DERIVED. GIVEN WITH THE SEED: THE CARDS: each row of YtbmfimaomcnkfaaDoorRows.lean that lists a variable, with what it lists TIED to the program's text (the seventh form; the later family's looks); each row that meets fmt, with fmt's text TOLD by the authors' own Lean function (tested against real Go, not proved from fmt's source: count such statements apart). THE CARD IS WHAT COUNTS. Prove the row's statement (the work); the ties are given (YtbmfimaomcnkfaaDoorTie.lean); close each card by the builder's one call (the guide's Derived/Test/ToyasCard.lean, 'card_holds'). Laid BY PROGRAM, IN A SANDBOX (cutbox-door.mjs). By AI agents, Wed Nov 11 2026. No macro, syntax, notation, axiom, sorry.
-/
import Derived.Test.YtbmfimaomcnkfaaDoorRows
import GoSem.ClaimSeven
namespace Go.Proofs.YtbmfimaomcnkfaaDoor
namespace Rows

/-- THE TIED CARD OF 'touchmarklaw07.TreatyStates'. -/
def treatyStatesCard : Claim7 := { stood := { row := treatyStatesRow, standIns := [], harness := (true, "87717178b9f8fb132b9a99828b82b9c04095abb076ab63e0497eb97ce6626cf9"), looks := false }, kinds := [], alts := [], goes := true, laidByText := true, laidKinds := [.data, .funcsDeep], laidTests := true, laidLooks := .later }
def TreatyStatesCardSaid : Prop := Claim7.holds Tryd.pinned (.plain (OpenSpec.ofChange treatyStatesSpec)) treatyStatesCard

/-- THE TIED CARD OF 'touchmarklaw07.TreatyDates'. -/
def treatyDatesCard : Claim7 := { stood := { row := treatyDatesRow, standIns := [], harness := (true, "87717178b9f8fb132b9a99828b82b9c04095abb076ab63e0497eb97ce6626cf9"), looks := false }, kinds := [], alts := [], goes := true, laidByText := true, laidKinds := [.data, .funcsDeep], laidTests := true, laidLooks := .later }
def TreatyDatesCardSaid : Prop := Claim7.holds Tryd.pinned (.plain (OpenSpec.ofChange treatyDatesSpec)) treatyDatesCard

/-- THE TIED CARD OF 'touchmarklaw07.TreatyAnyOrder'. -/
def treatyAnyOrderCard : Claim7 := { stood := { row := treatyAnyOrderRow, standIns := [], harness := (true, "87717178b9f8fb132b9a99828b82b9c04095abb076ab63e0497eb97ce6626cf9"), looks := false }, kinds := [], alts := [], goes := true, laidByText := true, laidKinds := [.data, .funcsDeep], laidTests := true, laidLooks := .later }
def TreatyAnyOrderCardSaid : Prop := Claim7.holds Tryd.pinned (.plain (OpenSpec.ofChange treatyAnyOrderSpec)) treatyAnyOrderCard

/-- THE TIED CARD OF 'touchmarklaw07.TreatyCentral'. -/
def treatyCentralCard : Claim7 := { stood := { row := treatyCentralRow, standIns := [], harness := (true, "87717178b9f8fb132b9a99828b82b9c04095abb076ab63e0497eb97ce6626cf9"), looks := false }, kinds := [], alts := [], goes := true, laidByText := true, laidKinds := [.data, .funcsDeep], laidTests := true, laidLooks := .later }
def TreatyCentralCardSaid : Prop := Claim7.holds Tryd.pinned (.plain (OpenSpec.ofChange treatyCentralSpec)) treatyCentralCard

/-- THE TIED CARD OF 'touchmarklaw07.TreatyTurned'. -/
def treatyTurnedCard : Claim7 := { stood := { row := treatyTurnedRow, standIns := [], harness := (true, "87717178b9f8fb132b9a99828b82b9c04095abb076ab63e0497eb97ce6626cf9"), looks := false }, kinds := [], alts := [], goes := true, laidByText := true, laidKinds := [.data, .funcsDeep], laidTests := true, laidLooks := .later }
def TreatyTurnedCardSaid : Prop := Claim7.holds Tryd.pinned (.plain (OpenSpec.ofChange treatyTurnedSpec)) treatyTurnedCard

/-- THE TIED CARD OF 'touchmarklaw07.TreatyGiving'. -/
def treatyGivingCard : Claim7 := { stood := { row := treatyGivingRow, standIns := [], harness := (true, "87717178b9f8fb132b9a99828b82b9c04095abb076ab63e0497eb97ce6626cf9"), looks := false }, kinds := [], alts := [], goes := true, laidByText := true, laidKinds := [.data, .funcsDeep], laidTests := true, laidLooks := .later }
def TreatyGivingCardSaid : Prop := Claim7.holds Tryd.pinned (.plain (OpenSpec.ofChange treatyGivingSpec)) treatyGivingCard

/-- THE TIED CARD OF 'touchmarklaw07.TreatyTaking'. -/
def treatyTakingCard : Claim7 := { stood := { row := treatyTakingRow, standIns := [], harness := (true, "87717178b9f8fb132b9a99828b82b9c04095abb076ab63e0497eb97ce6626cf9"), looks := false }, kinds := [], alts := [], goes := true, laidByText := true, laidKinds := [.data, .funcsDeep], laidTests := true, laidLooks := .later }
def TreatyTakingCardSaid : Prop := Claim7.holds Tryd.pinned (.plain (OpenSpec.ofChange treatyTakingSpec)) treatyTakingCard

/-- THE TIED CARD OF 'touchmarklaw07.TreatySpanned'. -/
def treatySpannedCard : Claim7 := { stood := { row := treatySpannedRow, standIns := [], harness := (true, "87717178b9f8fb132b9a99828b82b9c04095abb076ab63e0497eb97ce6626cf9"), looks := false }, kinds := [], alts := [], goes := true, laidByText := true, laidKinds := [.data, .funcsDeep], laidTests := true, laidLooks := .later }
def TreatySpannedCardSaid : Prop := Claim7.holds Tryd.pinned (.plain (OpenSpec.ofChange treatySpannedSpec)) treatySpannedCard

/-- THE TIED CARD OF 'touchmarklaw07.TreatyDated'. -/
def treatyDatedCard : Claim7 := { stood := { row := treatyDatedRow, standIns := [], harness := (true, "87717178b9f8fb132b9a99828b82b9c04095abb076ab63e0497eb97ce6626cf9"), looks := false }, kinds := [], alts := [], goes := true, laidByText := true, laidKinds := [.data, .funcsDeep], laidTests := true, laidLooks := .later }
def TreatyDatedCardSaid : Prop := Claim7.holds Tryd.pinned (.plain (OpenSpec.ofChange treatyDatedSpec)) treatyDatedCard

/-- THE TIED CARD OF 'touchmarklaw07.TreatyLate'. -/
def treatyLateCard : Claim7 := { stood := { row := treatyLateRow, standIns := [], harness := (true, "87717178b9f8fb132b9a99828b82b9c04095abb076ab63e0497eb97ce6626cf9"), looks := false }, kinds := [], alts := [], goes := true, laidByText := true, laidKinds := [.data, .funcsDeep], laidTests := true, laidLooks := .later }
def TreatyLateCardSaid : Prop := Claim7.holds Tryd.pinned (.plain (OpenSpec.ofChange treatyLateSpec)) treatyLateCard

/-- THE TIED CARD OF 'touchmarklaw07.TreatyApart'. -/
def treatyApartCard : Claim7 := { stood := { row := treatyApartRow, standIns := [], harness := (true, "87717178b9f8fb132b9a99828b82b9c04095abb076ab63e0497eb97ce6626cf9"), looks := false }, kinds := [], alts := [], goes := true, laidByText := true, laidKinds := [.data, .funcsDeep], laidTests := true, laidLooks := .later }
def TreatyApartCardSaid : Prop := Claim7.holds Tryd.pinned (.plain (OpenSpec.ofChange treatyApartSpec)) treatyApartCard

/-- THE TIED CARD OF 'touchmarklaw07.TreatyEvents'. -/
def treatyEventsCard : Claim7 := { stood := { row := treatyEventsRow, standIns := [], harness := (true, "87717178b9f8fb132b9a99828b82b9c04095abb076ab63e0497eb97ce6626cf9"), looks := false }, kinds := [], alts := [], goes := true, laidByText := true, laidKinds := [.data, .funcsDeep], laidTests := true, laidLooks := .later }
def TreatyEventsCardSaid : Prop := Claim7.holds Tryd.pinned (.plain (OpenSpec.ofChange treatyEventsSpec)) treatyEventsCard

/-- THE TIED CARD OF 'touchmarklaw07.TreatyNeeded'. -/
def treatyNeededCard : Claim7 := { stood := { row := treatyNeededRow, standIns := [], harness := (true, "87717178b9f8fb132b9a99828b82b9c04095abb076ab63e0497eb97ce6626cf9"), looks := false }, kinds := [], alts := [], goes := true, laidByText := true, laidKinds := [.data, .funcsDeep], laidTests := true, laidLooks := .later }
def TreatyNeededCardSaid : Prop := Claim7.holds Tryd.pinned (.plain (OpenSpec.ofChange treatyNeededSpec)) treatyNeededCard

/-- THE SECOND FORM's CARD OF 'touchmarklaw07.TreatyStates'. -/
def treatyStatesUptoCard : Claim7 := { stood := { row := treatyStatesUptoRow, standIns := [], harness := (true, "87717178b9f8fb132b9a99828b82b9c04095abb076ab63e0497eb97ce6626cf9"), looks := false }, kinds := [], alts := [], goes := true, laidByText := true, laidKinds := [.data, .funcsDeep], laidTests := true, laidLooks := .later }
def TreatyStatesUptoCardSaid : Prop := Claim7.holds Tryd.pinned (.plain (OpenSpec.upto treatyStatesSpec)) treatyStatesUptoCard

/-- THE SECOND FORM's CARD OF 'touchmarklaw07.TreatyDates'. -/
def treatyDatesUptoCard : Claim7 := { stood := { row := treatyDatesUptoRow, standIns := [], harness := (true, "87717178b9f8fb132b9a99828b82b9c04095abb076ab63e0497eb97ce6626cf9"), looks := false }, kinds := [], alts := [], goes := true, laidByText := true, laidKinds := [.data, .funcsDeep], laidTests := true, laidLooks := .later }
def TreatyDatesUptoCardSaid : Prop := Claim7.holds Tryd.pinned (.plain (OpenSpec.upto treatyDatesSpec)) treatyDatesUptoCard

/-- THE SECOND FORM's CARD OF 'touchmarklaw07.TreatyAnyOrder'. -/
def treatyAnyOrderUptoCard : Claim7 := { stood := { row := treatyAnyOrderUptoRow, standIns := [], harness := (true, "87717178b9f8fb132b9a99828b82b9c04095abb076ab63e0497eb97ce6626cf9"), looks := false }, kinds := [], alts := [], goes := true, laidByText := true, laidKinds := [.data, .funcsDeep], laidTests := true, laidLooks := .later }
def TreatyAnyOrderUptoCardSaid : Prop := Claim7.holds Tryd.pinned (.plain (OpenSpec.upto treatyAnyOrderSpec)) treatyAnyOrderUptoCard

/-- THE SECOND FORM's CARD OF 'touchmarklaw07.TreatyCentral'. -/
def treatyCentralUptoCard : Claim7 := { stood := { row := treatyCentralUptoRow, standIns := [], harness := (true, "87717178b9f8fb132b9a99828b82b9c04095abb076ab63e0497eb97ce6626cf9"), looks := false }, kinds := [], alts := [], goes := true, laidByText := true, laidKinds := [.data, .funcsDeep], laidTests := true, laidLooks := .later }
def TreatyCentralUptoCardSaid : Prop := Claim7.holds Tryd.pinned (.plain (OpenSpec.upto treatyCentralSpec)) treatyCentralUptoCard

/-- THE SECOND FORM's CARD OF 'touchmarklaw07.TreatyTurned'. -/
def treatyTurnedUptoCard : Claim7 := { stood := { row := treatyTurnedUptoRow, standIns := [], harness := (true, "87717178b9f8fb132b9a99828b82b9c04095abb076ab63e0497eb97ce6626cf9"), looks := false }, kinds := [], alts := [], goes := true, laidByText := true, laidKinds := [.data, .funcsDeep], laidTests := true, laidLooks := .later }
def TreatyTurnedUptoCardSaid : Prop := Claim7.holds Tryd.pinned (.plain (OpenSpec.upto treatyTurnedSpec)) treatyTurnedUptoCard

/-- THE SECOND FORM's CARD OF 'touchmarklaw07.TreatyGiving'. -/
def treatyGivingUptoCard : Claim7 := { stood := { row := treatyGivingUptoRow, standIns := [], harness := (true, "87717178b9f8fb132b9a99828b82b9c04095abb076ab63e0497eb97ce6626cf9"), looks := false }, kinds := [], alts := [], goes := true, laidByText := true, laidKinds := [.data, .funcsDeep], laidTests := true, laidLooks := .later }
def TreatyGivingUptoCardSaid : Prop := Claim7.holds Tryd.pinned (.plain (OpenSpec.upto treatyGivingSpec)) treatyGivingUptoCard

/-- THE SECOND FORM's CARD OF 'touchmarklaw07.TreatyTaking'. -/
def treatyTakingUptoCard : Claim7 := { stood := { row := treatyTakingUptoRow, standIns := [], harness := (true, "87717178b9f8fb132b9a99828b82b9c04095abb076ab63e0497eb97ce6626cf9"), looks := false }, kinds := [], alts := [], goes := true, laidByText := true, laidKinds := [.data, .funcsDeep], laidTests := true, laidLooks := .later }
def TreatyTakingUptoCardSaid : Prop := Claim7.holds Tryd.pinned (.plain (OpenSpec.upto treatyTakingSpec)) treatyTakingUptoCard

/-- THE SECOND FORM's CARD OF 'touchmarklaw07.TreatySpanned'. -/
def treatySpannedUptoCard : Claim7 := { stood := { row := treatySpannedUptoRow, standIns := [], harness := (true, "87717178b9f8fb132b9a99828b82b9c04095abb076ab63e0497eb97ce6626cf9"), looks := false }, kinds := [], alts := [], goes := true, laidByText := true, laidKinds := [.data, .funcsDeep], laidTests := true, laidLooks := .later }
def TreatySpannedUptoCardSaid : Prop := Claim7.holds Tryd.pinned (.plain (OpenSpec.upto treatySpannedSpec)) treatySpannedUptoCard

/-- THE SECOND FORM's CARD OF 'touchmarklaw07.TreatyDated'. -/
def treatyDatedUptoCard : Claim7 := { stood := { row := treatyDatedUptoRow, standIns := [], harness := (true, "87717178b9f8fb132b9a99828b82b9c04095abb076ab63e0497eb97ce6626cf9"), looks := false }, kinds := [], alts := [], goes := true, laidByText := true, laidKinds := [.data, .funcsDeep], laidTests := true, laidLooks := .later }
def TreatyDatedUptoCardSaid : Prop := Claim7.holds Tryd.pinned (.plain (OpenSpec.upto treatyDatedSpec)) treatyDatedUptoCard

/-- THE SECOND FORM's CARD OF 'touchmarklaw07.TreatyLate'. -/
def treatyLateUptoCard : Claim7 := { stood := { row := treatyLateUptoRow, standIns := [], harness := (true, "87717178b9f8fb132b9a99828b82b9c04095abb076ab63e0497eb97ce6626cf9"), looks := false }, kinds := [], alts := [], goes := true, laidByText := true, laidKinds := [.data, .funcsDeep], laidTests := true, laidLooks := .later }
def TreatyLateUptoCardSaid : Prop := Claim7.holds Tryd.pinned (.plain (OpenSpec.upto treatyLateSpec)) treatyLateUptoCard

/-- THE SECOND FORM's CARD OF 'touchmarklaw07.TreatyApart'. -/
def treatyApartUptoCard : Claim7 := { stood := { row := treatyApartUptoRow, standIns := [], harness := (true, "87717178b9f8fb132b9a99828b82b9c04095abb076ab63e0497eb97ce6626cf9"), looks := false }, kinds := [], alts := [], goes := true, laidByText := true, laidKinds := [.data, .funcsDeep], laidTests := true, laidLooks := .later }
def TreatyApartUptoCardSaid : Prop := Claim7.holds Tryd.pinned (.plain (OpenSpec.upto treatyApartSpec)) treatyApartUptoCard

/-- THE SECOND FORM's CARD OF 'touchmarklaw07.TreatyEvents'. -/
def treatyEventsUptoCard : Claim7 := { stood := { row := treatyEventsUptoRow, standIns := [], harness := (true, "87717178b9f8fb132b9a99828b82b9c04095abb076ab63e0497eb97ce6626cf9"), looks := false }, kinds := [], alts := [], goes := true, laidByText := true, laidKinds := [.data, .funcsDeep], laidTests := true, laidLooks := .later }
def TreatyEventsUptoCardSaid : Prop := Claim7.holds Tryd.pinned (.plain (OpenSpec.upto treatyEventsSpec)) treatyEventsUptoCard

/-- THE SECOND FORM's CARD OF 'touchmarklaw07.TreatyNeeded'. -/
def treatyNeededUptoCard : Claim7 := { stood := { row := treatyNeededUptoRow, standIns := [], harness := (true, "87717178b9f8fb132b9a99828b82b9c04095abb076ab63e0497eb97ce6626cf9"), looks := false }, kinds := [], alts := [], goes := true, laidByText := true, laidKinds := [.data, .funcsDeep], laidTests := true, laidLooks := .later }
def TreatyNeededUptoCardSaid : Prop := Claim7.holds Tryd.pinned (.plain (OpenSpec.upto treatyNeededSpec)) treatyNeededUptoCard
end Rows
end Go.Proofs.YtbmfimaomcnkfaaDoor

/-
  DERIVED. GIVEN WITH THE SEED: THE CARDS: each row of YtpkjbclajflhbaaGreatDoorRows.lean that lists a variable, with what it lists TIED to the program's text (the seventh form; the later family's looks); each row that meets fmt, with fmt's text TOLD by the authors' own Lean function (tested against real Go, not proved from fmt's source: count such statements apart). THE CARD IS WHAT COUNTS. Prove the row's statement (the work); the ties are given (YtpkjbclajflhbaaGreatDoorTie.lean); close each card by the builder's one call (the guide's Derived/Test/ToyasCard.lean, 'card_holds'). Laid BY PROGRAM, IN A SANDBOX (cutbox-door.mjs). By AI agents, Wed Nov 11 2026. No macro, syntax, notation, axiom, sorry.
-/
import Derived.Test.YtpkjbclajflhbaaGreatDoorRows
import GoSem.ClaimSeven
namespace Go.Proofs.YtpkjbclajflhbaaGreatDoor
namespace Rows

/-- THE TIED CARD OF 'touchmarklaw05.UseTexts'. -/
def useTextsCard : Claim7 := { stood := { row := useTextsRow, standIns := [], harness := (true, "4005eeb8314fbf8c532a3f595eabb1c55c1c6dd9dd4be7d320b2d175ae82c819"), looks := true }, kinds := [], alts := [], goes := true, laidByText := true, laidKinds := [.data, .data, .data, .data, .sentinel, .sentinel, .sentinel, .funcs, .pinned], laidTests := true, laidLooks := .later }
def UseTextsCardSaid : Prop := Claim7.holds Tryz.pinned (.plain (OpenSpec.ofChange useTextsSpec)) useTextsCard

/-- THE TIED CARD OF 'touchmarklaw05.UseBack'. -/
def useBackCard : Claim7 := { stood := { row := useBackRow, standIns := [], harness := (true, "4005eeb8314fbf8c532a3f595eabb1c55c1c6dd9dd4be7d320b2d175ae82c819"), looks := true }, kinds := [], alts := [], goes := true, laidByText := true, laidKinds := [.data, .data, .data, .data, .sentinel, .sentinel, .sentinel, .funcs, .pinned], laidTests := true, laidLooks := .later }
def UseBackCardSaid : Prop := Claim7.holds Tryz.pinned (.plain (OpenSpec.ofChange useBackSpec)) useBackCard

/-- THE TIED CARD OF 'touchmarklaw07.TreatyTexts'. -/
def treatyTextsCard : Claim7 := { stood := { row := treatyTextsRow, standIns := [], harness := (true, "4005eeb8314fbf8c532a3f595eabb1c55c1c6dd9dd4be7d320b2d175ae82c819"), looks := true }, kinds := [], alts := [], goes := true, laidByText := true, laidKinds := [.data, .data, .data, .data, .sentinel, .sentinel, .data, .funcsDeep, .pinned], laidTests := true, laidLooks := .later }
def TreatyTextsCardSaid : Prop := Claim7.holds Tryz.pinned (.plain (OpenSpec.ofChange treatyTextsSpec)) treatyTextsCard

/-- THE TIED CARD OF 'touchmarklaw07.TreatyBack'. -/
def treatyBackCard : Claim7 := { stood := { row := treatyBackRow, standIns := [], harness := (true, "4005eeb8314fbf8c532a3f595eabb1c55c1c6dd9dd4be7d320b2d175ae82c819"), looks := true }, kinds := [], alts := [], goes := true, laidByText := true, laidKinds := [.data, .data, .data, .data, .sentinel, .sentinel, .data, .funcsDeep, .pinned], laidTests := true, laidLooks := .later }
def TreatyBackCardSaid : Prop := Claim7.holds Tryz.pinned (.plain (OpenSpec.ofChange treatyBackSpec)) treatyBackCard

/-- THE SECOND FORM's CARD OF 'touchmarklaw05.UseTexts'. -/
def useTextsUptoCard : Claim7 := { stood := { row := useTextsUptoRow, standIns := [], harness := (true, "4005eeb8314fbf8c532a3f595eabb1c55c1c6dd9dd4be7d320b2d175ae82c819"), looks := true }, kinds := [], alts := [], goes := true, laidByText := true, laidKinds := [.data, .data, .data, .data, .sentinel, .sentinel, .sentinel, .funcs, .pinned], laidTests := true, laidLooks := .later }
def UseTextsUptoCardSaid : Prop := Claim7.holds Tryz.pinned (.plain (OpenSpec.upto useTextsSpec)) useTextsUptoCard

/-- THE SECOND FORM's CARD OF 'touchmarklaw05.UseBack'. -/
def useBackUptoCard : Claim7 := { stood := { row := useBackUptoRow, standIns := [], harness := (true, "4005eeb8314fbf8c532a3f595eabb1c55c1c6dd9dd4be7d320b2d175ae82c819"), looks := true }, kinds := [], alts := [], goes := true, laidByText := true, laidKinds := [.data, .data, .data, .data, .sentinel, .sentinel, .sentinel, .funcs, .pinned], laidTests := true, laidLooks := .later }
def UseBackUptoCardSaid : Prop := Claim7.holds Tryz.pinned (.plain (OpenSpec.upto useBackSpec)) useBackUptoCard

/-- THE SECOND FORM's CARD OF 'touchmarklaw07.TreatyTexts'. -/
def treatyTextsUptoCard : Claim7 := { stood := { row := treatyTextsUptoRow, standIns := [], harness := (true, "4005eeb8314fbf8c532a3f595eabb1c55c1c6dd9dd4be7d320b2d175ae82c819"), looks := true }, kinds := [], alts := [], goes := true, laidByText := true, laidKinds := [.data, .data, .data, .data, .sentinel, .sentinel, .data, .funcsDeep, .pinned], laidTests := true, laidLooks := .later }
def TreatyTextsUptoCardSaid : Prop := Claim7.holds Tryz.pinned (.plain (OpenSpec.upto treatyTextsSpec)) treatyTextsUptoCard

/-- THE SECOND FORM's CARD OF 'touchmarklaw07.TreatyBack'. -/
def treatyBackUptoCard : Claim7 := { stood := { row := treatyBackUptoRow, standIns := [], harness := (true, "4005eeb8314fbf8c532a3f595eabb1c55c1c6dd9dd4be7d320b2d175ae82c819"), looks := true }, kinds := [], alts := [], goes := true, laidByText := true, laidKinds := [.data, .data, .data, .data, .sentinel, .sentinel, .data, .funcsDeep, .pinned], laidTests := true, laidLooks := .later }
def TreatyBackUptoCardSaid : Prop := Claim7.holds Tryz.pinned (.plain (OpenSpec.upto treatyBackSpec)) treatyBackUptoCard
end Rows
end Go.Proofs.YtpkjbclajflhbaaGreatDoor

/-
  DERIVED. GIVEN WITH THE SEED: THE CARDS: each row of YtjckkafejlcknaaGreatDoorRows.lean that lists a variable, with what it lists TIED to the program's text (the seventh form; the later family's looks); each row that meets fmt, with fmt's text TOLD by the authors' own Lean function (tested against real Go, not proved from fmt's source: count such statements apart). THE CARD IS WHAT COUNTS. Prove the row's statement (the work); the ties are given (YtjckkafejlcknaaGreatDoorTie.lean); close each card by the builder's one call (the guide's Derived/Test/ToyasCard.lean, 'card_holds'). Laid BY PROGRAM, IN A SANDBOX (cutbox-door.mjs). By AI agents, Wed Nov 11 2026. No macro, syntax, notation, axiom, sorry.
-/
import Derived.Test.YtjckkafejlcknaaGreatDoorRows
import GoSem.ClaimSeven
namespace Go.Proofs.YtjckkafejlcknaaGreatDoor
namespace Rows

/-- THE TIED CARD OF 'touchmarklaw07.TreatyOwned'. -/
def treatyOwnedCard : Claim7 := { stood := { row := treatyOwnedRow, standIns := [], harness := (true, "a9dcd31d68b353c66cae257cc8f1a92c0974430bbb173a34d655c145ff11d9af"), looks := false }, kinds := [], alts := [], goes := true, laidByText := true, laidKinds := [.data, .funcsDeep, .data, .funcsDeep, .pinned], laidTests := true, laidLooks := .later }
def TreatyOwnedCardSaid : Prop := Claim7.holds Tryz.pinned (.plain (OpenSpec.ofChange treatyOwnedSpec)) treatyOwnedCard

/-- THE SECOND FORM's CARD OF 'touchmarklaw07.TreatyOwned'. -/
def treatyOwnedUptoCard : Claim7 := { stood := { row := treatyOwnedUptoRow, standIns := [], harness := (true, "a9dcd31d68b353c66cae257cc8f1a92c0974430bbb173a34d655c145ff11d9af"), looks := false }, kinds := [], alts := [], goes := true, laidByText := true, laidKinds := [.data, .funcsDeep, .data, .funcsDeep, .pinned], laidTests := true, laidLooks := .later }
def TreatyOwnedUptoCardSaid : Prop := Claim7.holds Tryz.pinned (.plain (OpenSpec.upto treatyOwnedSpec)) treatyOwnedUptoCard
end Rows
end Go.Proofs.YtjckkafejlcknaaGreatDoor

/-
  DERIVED. GIVEN WITH THE SEED: THE CARDS: each row of YtjlalnifmgppdaaGreatDoorRows.lean that lists a variable, with what it lists TIED to the program's text (the seventh form; the later family's looks); each row that meets fmt, with fmt's text TOLD by the authors' own Lean function (tested against real Go, not proved from fmt's source: count such statements apart). THE CARD IS WHAT COUNTS. Prove the row's statement (the work); the ties are given (YtjlalnifmgppdaaGreatDoorTie.lean); close each card by the builder's one call (the guide's Derived/Test/ToyasCard.lean, 'card_holds'). Laid BY PROGRAM, IN A SANDBOX (cutbox-door.mjs). By AI agents, Wed Nov 11 2026. No macro, syntax, notation, axiom, sorry.
-/
import Derived.Test.YtjlalnifmgppdaaGreatDoorRows
import GoSem.ClaimSeven
namespace Go.Proofs.YtjlalnifmgppdaaGreatDoor
namespace Rows

/-- THE TIED CARD OF 'touchmarklaw05.UseBars'. -/
def useBarsCard : Claim7 := { stood := { row := useBarsRow, standIns := [], harness := (true, "e15fde5ab852f02b41523015e8b6c4cbae3867b20042564dcf4dfe16575e5c5f"), looks := false }, kinds := [], alts := [], goes := true, laidByText := true, laidKinds := [.data, .funcs], laidTests := true, laidLooks := .later }
def UseBarsCardSaid : Prop := Claim7.holds Tryz.pinned (.plain (OpenSpec.ofChange useBarsSpec)) useBarsCard
end Rows
end Go.Proofs.YtjlalnifmgppdaaGreatDoor

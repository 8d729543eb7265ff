/-
  DERIVED. GIVEN WITH THE SEED: THE CARDS: each row of YtgljffachdhigaaGreatDoorRows.lean that lists a variable, with what it lists TIED to the program's text (the seventh form; the later family's looks); each row that meets fmt, with fmt's text TOLD by the authors' own Lean function (tested against real Go, not proved from fmt's source: count such statements apart). THE CARD IS WHAT COUNTS. Prove the row's statement (the work); the ties are given (YtgljffachdhigaaGreatDoorTie.lean); close each card by the builder's one call (the guide's Derived/Test/ToyasCard.lean, 'card_holds'). Laid BY PROGRAM, IN A SANDBOX (cutbox-door.mjs). By AI agents, Wed Nov 11 2026. No macro, syntax, notation, axiom, sorry.
-/
import Derived.Test.YtgljffachdhigaaGreatDoorRows
import GoSem.ClaimSeven
namespace Go.Proofs.YtgljffachdhigaaGreatDoor
namespace Rows

/-- THE TIED CARD OF 'touchmarklaw05.UseRival'. -/
def useRivalCard : Claim7 := { stood := { row := useRivalRow, standIns := [], harness := (true, "6feb89e1e24e8903f3d979dd26ed4873f345aa1451ed64f7e89136c785c95562"), looks := false }, kinds := [], alts := [], goes := true, laidByText := true, laidKinds := [.funcs, .funcs], laidTests := true, laidLooks := .later }
def UseRivalCardSaid : Prop := Claim7.holds Tryz.pinned (.plain (OpenSpec.ofChange useRivalSpec)) useRivalCard

/-- THE TIED CARD OF 'touchmarklaw07.TreatyRival'. -/
def treatyRivalCard : Claim7 := { stood := { row := treatyRivalRow, standIns := [], harness := (true, "6feb89e1e24e8903f3d979dd26ed4873f345aa1451ed64f7e89136c785c95562"), looks := false }, kinds := [], alts := [], goes := true, laidByText := true, laidKinds := [.funcs, .data, .funcsDeep], laidTests := true, laidLooks := .later }
def TreatyRivalCardSaid : Prop := Claim7.holds Tryz.pinned (.plain (OpenSpec.ofChange treatyRivalSpec)) treatyRivalCard

/-- THE SECOND FORM's CARD OF 'touchmarklaw05.UseRival'. -/
def useRivalUptoCard : Claim7 := { stood := { row := useRivalUptoRow, standIns := [], harness := (true, "6feb89e1e24e8903f3d979dd26ed4873f345aa1451ed64f7e89136c785c95562"), looks := false }, kinds := [], alts := [], goes := true, laidByText := true, laidKinds := [.funcs, .funcs], laidTests := true, laidLooks := .later }
def UseRivalUptoCardSaid : Prop := Claim7.holds Tryz.pinned (.plain (OpenSpec.upto useRivalSpec)) useRivalUptoCard

/-- THE SECOND FORM's CARD OF 'touchmarklaw07.TreatyRival'. -/
def treatyRivalUptoCard : Claim7 := { stood := { row := treatyRivalUptoRow, standIns := [], harness := (true, "6feb89e1e24e8903f3d979dd26ed4873f345aa1451ed64f7e89136c785c95562"), looks := false }, kinds := [], alts := [], goes := true, laidByText := true, laidKinds := [.funcs, .data, .funcsDeep], laidTests := true, laidLooks := .later }
def TreatyRivalUptoCardSaid : Prop := Claim7.holds Tryz.pinned (.plain (OpenSpec.upto treatyRivalSpec)) treatyRivalUptoCard
end Rows
end Go.Proofs.YtgljffachdhigaaGreatDoor

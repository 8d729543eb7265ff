/-
  DERIVED. GIVEN WITH THE SEED: THE CARDS: each row of YtfkfohpnpljihaaGreatDoorRows.lean that lists a variable, with what it lists TIED to the program's text (the seventh form; the later family's looks); each row that meets fmt, with fmt's text TOLD by the authors' own Lean function (tested against real Go, not proved from fmt's source: count such statements apart). THE CARD IS WHAT COUNTS. Prove the row's statement (the work); the ties are given (YtfkfohpnpljihaaGreatDoorTie.lean); close each card by the builder's one call (the guide's Derived/Test/ToyasCard.lean, 'card_holds'). Laid BY PROGRAM, IN A SANDBOX (cutbox-door.mjs). By AI agents, Wed Nov 11 2026. No macro, syntax, notation, axiom, sorry.
-/
import Derived.Test.YtfkfohpnpljihaaGreatDoorRows
import GoSem.ClaimSeven
namespace Go.Proofs.YtfkfohpnpljihaaGreatDoor
namespace Rows

/-- THE TIED CARD OF 'touchmarklaw05.UseKin'. -/
def useKinCard : Claim7 := { stood := { row := useKinRow, standIns := [], harness := (true, "88579795dc123ab43295547a504633235a1b5fb9c1427d64fbb65c86e2967568"), looks := false }, kinds := [], alts := [], goes := true, laidByText := true, laidKinds := [.funcs], laidTests := true, laidLooks := .later }
def UseKinCardSaid : Prop := Claim7.holds Tryz.pinned (.plain (OpenSpec.ofChange useKinSpec)) useKinCard

/-- THE TIED CARD OF 'touchmarklaw05.UseAgreed'. -/
def useAgreedCard : Claim7 := { stood := { row := useAgreedRow, standIns := [], harness := (true, "88579795dc123ab43295547a504633235a1b5fb9c1427d64fbb65c86e2967568"), looks := false }, kinds := [], alts := [], goes := true, laidByText := true, laidKinds := [.funcs], laidTests := true, laidLooks := .later }
def UseAgreedCardSaid : Prop := Claim7.holds Tryz.pinned (.plain (OpenSpec.ofChange useAgreedSpec)) useAgreedCard

/-- THE TIED CARD OF 'touchmarklaw07.TreatyAgreed'. -/
def treatyAgreedCard : Claim7 := { stood := { row := treatyAgreedRow, standIns := [], harness := (true, "88579795dc123ab43295547a504633235a1b5fb9c1427d64fbb65c86e2967568"), looks := false }, kinds := [], alts := [], goes := true, laidByText := true, laidKinds := [.data, .funcsDeep], laidTests := true, laidLooks := .later }
def TreatyAgreedCardSaid : Prop := Claim7.holds Tryz.pinned (.plain (OpenSpec.ofChange treatyAgreedSpec)) treatyAgreedCard

/-- THE SECOND FORM's CARD OF 'touchmarklaw05.UseKin'. -/
def useKinUptoCard : Claim7 := { stood := { row := useKinUptoRow, standIns := [], harness := (true, "88579795dc123ab43295547a504633235a1b5fb9c1427d64fbb65c86e2967568"), looks := false }, kinds := [], alts := [], goes := true, laidByText := true, laidKinds := [.funcs], laidTests := true, laidLooks := .later }
def UseKinUptoCardSaid : Prop := Claim7.holds Tryz.pinned (.plain (OpenSpec.upto useKinSpec)) useKinUptoCard

/-- THE SECOND FORM's CARD OF 'touchmarklaw05.UseAgreed'. -/
def useAgreedUptoCard : Claim7 := { stood := { row := useAgreedUptoRow, standIns := [], harness := (true, "88579795dc123ab43295547a504633235a1b5fb9c1427d64fbb65c86e2967568"), looks := false }, kinds := [], alts := [], goes := true, laidByText := true, laidKinds := [.funcs], laidTests := true, laidLooks := .later }
def UseAgreedUptoCardSaid : Prop := Claim7.holds Tryz.pinned (.plain (OpenSpec.upto useAgreedSpec)) useAgreedUptoCard

/-- THE SECOND FORM's CARD OF 'touchmarklaw07.TreatyAgreed'. -/
def treatyAgreedUptoCard : Claim7 := { stood := { row := treatyAgreedUptoRow, standIns := [], harness := (true, "88579795dc123ab43295547a504633235a1b5fb9c1427d64fbb65c86e2967568"), looks := false }, kinds := [], alts := [], goes := true, laidByText := true, laidKinds := [.data, .funcsDeep], laidTests := true, laidLooks := .later }
def TreatyAgreedUptoCardSaid : Prop := Claim7.holds Tryz.pinned (.plain (OpenSpec.upto treatyAgreedSpec)) treatyAgreedUptoCard
end Rows
end Go.Proofs.YtfkfohpnpljihaaGreatDoor

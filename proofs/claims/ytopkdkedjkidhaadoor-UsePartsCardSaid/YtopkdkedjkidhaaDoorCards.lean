/-
  DERIVED. GIVEN WITH THE SEED: THE CARDS: each row of YtopkdkedjkidhaaDoorRows.lean that lists a variable, with what it lists TIED to the program's text (the seventh form; the later family's looks); each row that meets fmt, with fmt's text TOLD by the authors' own Lean function (tested against real Go, not proved from fmt's source: count such statements apart). THE CARD IS WHAT COUNTS. Prove the row's statement (the work); the ties are given (YtopkdkedjkidhaaDoorTie.lean); close each card by the builder's one call (the guide's Derived/Test/ToyasCard.lean, 'card_holds'). Laid BY PROGRAM, IN A SANDBOX (cutbox-door.mjs). By AI agents, Wed Nov 11 2026. No macro, syntax, notation, axiom, sorry.
-/
import Derived.Test.YtopkdkedjkidhaaDoorRows
import GoSem.ClaimSeven
namespace Go.Proofs.YtopkdkedjkidhaaDoor
namespace Rows

/-- THE TIED CARD OF 'touchmarklaw05.UseWindows'. -/
def useWindowsCard : Claim7 := { stood := { row := useWindowsRow, standIns := [], harness := (true, "405d6b69910935ab91ede27e1bd68cefa05ffc10faab9493186411e401a76ac6"), looks := false }, kinds := [], alts := [], goes := true, laidByText := true, laidKinds := [.funcs], laidTests := true, laidLooks := .later }
def UseWindowsCardSaid : Prop := Claim7.holds Tryd.pinned (.plain (OpenSpec.ofChange useWindowsSpec)) useWindowsCard

/-- THE TIED CARD OF 'touchmarklaw05.UseLefts'. -/
def useLeftsCard : Claim7 := { stood := { row := useLeftsRow, standIns := [], harness := (true, "405d6b69910935ab91ede27e1bd68cefa05ffc10faab9493186411e401a76ac6"), looks := false }, kinds := [], alts := [], goes := true, laidByText := true, laidKinds := [.funcs], laidTests := true, laidLooks := .later }
def UseLeftsCardSaid : Prop := Claim7.holds Tryd.pinned (.plain (OpenSpec.ofChange useLeftsSpec)) useLeftsCard

/-- THE TIED CARD OF 'touchmarklaw05.UseKeeps'. -/
def useKeepsCard : Claim7 := { stood := { row := useKeepsRow, standIns := [], harness := (true, "405d6b69910935ab91ede27e1bd68cefa05ffc10faab9493186411e401a76ac6"), looks := false }, kinds := [], alts := [], goes := true, laidByText := true, laidKinds := [.funcs], laidTests := true, laidLooks := .later }
def UseKeepsCardSaid : Prop := Claim7.holds Tryd.pinned (.plain (OpenSpec.ofChange useKeepsSpec)) useKeepsCard

/-- THE TIED CARD OF 'touchmarklaw05.UseTrue'. -/
def useTrueCard : Claim7 := { stood := { row := useTrueRow, standIns := [], harness := (true, "405d6b69910935ab91ede27e1bd68cefa05ffc10faab9493186411e401a76ac6"), looks := false }, kinds := [], alts := [], goes := true, laidByText := true, laidKinds := [.funcs], laidTests := true, laidLooks := .later }
def UseTrueCardSaid : Prop := Claim7.holds Tryd.pinned (.plain (OpenSpec.ofChange useTrueSpec)) useTrueCard

/-- THE TIED CARD OF 'touchmarklaw05.UseMore'. -/
def useMoreCard : Claim7 := { stood := { row := useMoreRow, standIns := [], harness := (true, "405d6b69910935ab91ede27e1bd68cefa05ffc10faab9493186411e401a76ac6"), looks := false }, kinds := [], alts := [], goes := true, laidByText := true, laidKinds := [.funcs], laidTests := true, laidLooks := .later }
def UseMoreCardSaid : Prop := Claim7.holds Tryd.pinned (.plain (OpenSpec.ofChange useMoreSpec)) useMoreCard

/-- THE TIED CARD OF 'touchmarklaw05.UseParts'. -/
def usePartsCard : Claim7 := { stood := { row := usePartsRow, standIns := [], harness := (true, "405d6b69910935ab91ede27e1bd68cefa05ffc10faab9493186411e401a76ac6"), looks := false }, kinds := [], alts := [], goes := true, laidByText := true, laidKinds := [.funcs], laidTests := true, laidLooks := .later }
def UsePartsCardSaid : Prop := Claim7.holds Tryd.pinned (.plain (OpenSpec.ofChange usePartsSpec)) usePartsCard

/-- THE TIED CARD OF 'touchmarklaw05.UseTerms'. -/
def useTermsCard : Claim7 := { stood := { row := useTermsRow, standIns := [], harness := (true, "405d6b69910935ab91ede27e1bd68cefa05ffc10faab9493186411e401a76ac6"), looks := false }, kinds := [], alts := [], goes := true, laidByText := true, laidKinds := [.data, .funcs], laidTests := true, laidLooks := .later }
def UseTermsCardSaid : Prop := Claim7.holds Tryd.pinned (.plain (OpenSpec.ofChange useTermsSpec)) useTermsCard

/-- THE SECOND FORM's CARD OF 'touchmarklaw05.UseWindows'. -/
def useWindowsUptoCard : Claim7 := { stood := { row := useWindowsUptoRow, standIns := [], harness := (true, "405d6b69910935ab91ede27e1bd68cefa05ffc10faab9493186411e401a76ac6"), looks := false }, kinds := [], alts := [], goes := true, laidByText := true, laidKinds := [.funcs], laidTests := true, laidLooks := .later }
def UseWindowsUptoCardSaid : Prop := Claim7.holds Tryd.pinned (.plain (OpenSpec.upto useWindowsSpec)) useWindowsUptoCard

/-- THE SECOND FORM's CARD OF 'touchmarklaw05.UseLefts'. -/
def useLeftsUptoCard : Claim7 := { stood := { row := useLeftsUptoRow, standIns := [], harness := (true, "405d6b69910935ab91ede27e1bd68cefa05ffc10faab9493186411e401a76ac6"), looks := false }, kinds := [], alts := [], goes := true, laidByText := true, laidKinds := [.funcs], laidTests := true, laidLooks := .later }
def UseLeftsUptoCardSaid : Prop := Claim7.holds Tryd.pinned (.plain (OpenSpec.upto useLeftsSpec)) useLeftsUptoCard

/-- THE SECOND FORM's CARD OF 'touchmarklaw05.UseKeeps'. -/
def useKeepsUptoCard : Claim7 := { stood := { row := useKeepsUptoRow, standIns := [], harness := (true, "405d6b69910935ab91ede27e1bd68cefa05ffc10faab9493186411e401a76ac6"), looks := false }, kinds := [], alts := [], goes := true, laidByText := true, laidKinds := [.funcs], laidTests := true, laidLooks := .later }
def UseKeepsUptoCardSaid : Prop := Claim7.holds Tryd.pinned (.plain (OpenSpec.upto useKeepsSpec)) useKeepsUptoCard

/-- THE SECOND FORM's CARD OF 'touchmarklaw05.UseTrue'. -/
def useTrueUptoCard : Claim7 := { stood := { row := useTrueUptoRow, standIns := [], harness := (true, "405d6b69910935ab91ede27e1bd68cefa05ffc10faab9493186411e401a76ac6"), looks := false }, kinds := [], alts := [], goes := true, laidByText := true, laidKinds := [.funcs], laidTests := true, laidLooks := .later }
def UseTrueUptoCardSaid : Prop := Claim7.holds Tryd.pinned (.plain (OpenSpec.upto useTrueSpec)) useTrueUptoCard

/-- THE SECOND FORM's CARD OF 'touchmarklaw05.UseMore'. -/
def useMoreUptoCard : Claim7 := { stood := { row := useMoreUptoRow, standIns := [], harness := (true, "405d6b69910935ab91ede27e1bd68cefa05ffc10faab9493186411e401a76ac6"), looks := false }, kinds := [], alts := [], goes := true, laidByText := true, laidKinds := [.funcs], laidTests := true, laidLooks := .later }
def UseMoreUptoCardSaid : Prop := Claim7.holds Tryd.pinned (.plain (OpenSpec.upto useMoreSpec)) useMoreUptoCard

/-- THE SECOND FORM's CARD OF 'touchmarklaw05.UseParts'. -/
def usePartsUptoCard : Claim7 := { stood := { row := usePartsUptoRow, standIns := [], harness := (true, "405d6b69910935ab91ede27e1bd68cefa05ffc10faab9493186411e401a76ac6"), looks := false }, kinds := [], alts := [], goes := true, laidByText := true, laidKinds := [.funcs], laidTests := true, laidLooks := .later }
def UsePartsUptoCardSaid : Prop := Claim7.holds Tryd.pinned (.plain (OpenSpec.upto usePartsSpec)) usePartsUptoCard

/-- THE SECOND FORM's CARD OF 'touchmarklaw05.UseTerms'. -/
def useTermsUptoCard : Claim7 := { stood := { row := useTermsUptoRow, standIns := [], harness := (true, "405d6b69910935ab91ede27e1bd68cefa05ffc10faab9493186411e401a76ac6"), looks := false }, kinds := [], alts := [], goes := true, laidByText := true, laidKinds := [.data, .funcs], laidTests := true, laidLooks := .later }
def UseTermsUptoCardSaid : Prop := Claim7.holds Tryd.pinned (.plain (OpenSpec.upto useTermsSpec)) useTermsUptoCard
end Rows
end Go.Proofs.YtopkdkedjkidhaaDoor

/-
  DERIVED. GIVEN WITH THE SEED: THE CARDS: each row of YtldamlcehbdkdaaDoorRows.lean that lists a variable, with what it lists TIED to the program's text (the seventh form; the later family's looks); each row that meets fmt, with fmt's text TOLD by the authors' own Lean function (tested against real Go, not proved from fmt's source: count such statements apart). THE CARD IS WHAT COUNTS. Prove the row's statement (the work); the ties are given (YtldamlcehbdkdaaDoorTie.lean); close each card by the builder's one call (the guide's Derived/Test/ToyasCard.lean, 'card_holds'). Laid BY PROGRAM, IN A SANDBOX (cutbox-door.mjs). By AI agents, Wed Nov 11 2026. No macro, syntax, notation, axiom, sorry.
-/
import Derived.Test.YtldamlcehbdkdaaDoorRows
import GoSem.ClaimSeven
namespace Go.Proofs.YtldamlcehbdkdaaDoor
namespace Rows

/-- THE TIED CARD OF 'touchmarklaw05.UseTerms'. -/
def useTermsCard : Claim7 := { stood := { row := useTermsRow, standIns := [], harness := (true, "09ba8a849690cb6e969149f08ee6e05b54d0e919fae2fc5f15244257cadc370a"), looks := false }, kinds := [], alts := [], goes := true, laidByText := true, laidKinds := [.data, .funcs], laidTests := true, laidLooks := .later }
def UseTermsCardSaid : Prop := Claim7.holds Tryd.pinned (.plain (OpenSpec.ofChange useTermsSpec)) useTermsCard

/-- THE TIED CARD OF 'touchmarklaw07.TreatyTerms'. -/
def treatyTermsCard : Claim7 := { stood := { row := treatyTermsRow, standIns := [], harness := (true, "09ba8a849690cb6e969149f08ee6e05b54d0e919fae2fc5f15244257cadc370a"), looks := false }, kinds := [], alts := [], goes := true, laidByText := true, laidKinds := [.data, .data, .funcsDeep], laidTests := true, laidLooks := .later }
def TreatyTermsCardSaid : Prop := Claim7.holds Tryd.pinned (.plain (OpenSpec.ofChange treatyTermsSpec)) treatyTermsCard

/-- THE SECOND FORM's CARD OF 'touchmarklaw05.UseTerms'. -/
def useTermsUptoCard : Claim7 := { stood := { row := useTermsUptoRow, standIns := [], harness := (true, "09ba8a849690cb6e969149f08ee6e05b54d0e919fae2fc5f15244257cadc370a"), looks := false }, kinds := [], alts := [], goes := true, laidByText := true, laidKinds := [.data, .funcs], laidTests := true, laidLooks := .later }
def UseTermsUptoCardSaid : Prop := Claim7.holds Tryd.pinned (.plain (OpenSpec.upto useTermsSpec)) useTermsUptoCard

/-- THE SECOND FORM's CARD OF 'touchmarklaw07.TreatyTerms'. -/
def treatyTermsUptoCard : Claim7 := { stood := { row := treatyTermsUptoRow, standIns := [], harness := (true, "09ba8a849690cb6e969149f08ee6e05b54d0e919fae2fc5f15244257cadc370a"), looks := false }, kinds := [], alts := [], goes := true, laidByText := true, laidKinds := [.data, .data, .funcsDeep], laidTests := true, laidLooks := .later }
def TreatyTermsUptoCardSaid : Prop := Claim7.holds Tryd.pinned (.plain (OpenSpec.upto treatyTermsSpec)) treatyTermsUptoCard
end Rows
end Go.Proofs.YtldamlcehbdkdaaDoor

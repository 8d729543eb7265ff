/-
  DERIVED. GIVEN WITH THE SEED: THE CARDS: each row of YtibibhojkfapnaaDoorRows.lean that lists a variable, with what it lists TIED to the program's text (the seventh form; the later family's looks); each row that meets fmt, with fmt's text TOLD by the authors' own Lean function (tested against real Go, not proved from fmt's source: count such statements apart). THE CARD IS WHAT COUNTS. Prove the row's statement (the work); the ties are given (YtibibhojkfapnaaDoorTie.lean); close each card by the builder's one call (the guide's Derived/Test/ToyasCard.lean, 'card_holds'). Laid BY PROGRAM, IN A SANDBOX (cutbox-door.mjs). By AI agents, Wed Nov 11 2026. No macro, syntax, notation, axiom, sorry.
-/
import Derived.Test.YtibibhojkfapnaaDoorRows
import GoSem.ClaimSeven
namespace Go.Proofs.YtibibhojkfapnaaDoor
namespace Rows

/-- THE TIED CARD OF 'touchmarklaw05.UseWindows'. -/
def useWindowsCard : Claim7 := { stood := { row := useWindowsRow, standIns := [], harness := (true, "bdc51485389628918f059a234c87eaa33700f62d275fece42f051b4828c787a2"), looks := false }, kinds := [], alts := [], goes := true, laidByText := true, laidKinds := [.funcs], laidTests := true, laidLooks := .later }
def UseWindowsCardSaid : Prop := Claim7.holds Tryd.pinned (.plain (OpenSpec.ofChange useWindowsSpec)) useWindowsCard

/-- THE TIED CARD OF 'touchmarklaw05.UseLefts'. -/
def useLeftsCard : Claim7 := { stood := { row := useLeftsRow, standIns := [], harness := (true, "bdc51485389628918f059a234c87eaa33700f62d275fece42f051b4828c787a2"), looks := false }, kinds := [], alts := [], goes := true, laidByText := true, laidKinds := [.funcs], laidTests := true, laidLooks := .later }
def UseLeftsCardSaid : Prop := Claim7.holds Tryd.pinned (.plain (OpenSpec.ofChange useLeftsSpec)) useLeftsCard

/-- THE TIED CARD OF 'touchmarklaw05.UseKeeps'. -/
def useKeepsCard : Claim7 := { stood := { row := useKeepsRow, standIns := [], harness := (true, "bdc51485389628918f059a234c87eaa33700f62d275fece42f051b4828c787a2"), looks := false }, kinds := [], alts := [], goes := true, laidByText := true, laidKinds := [.funcs], laidTests := true, laidLooks := .later }
def UseKeepsCardSaid : Prop := Claim7.holds Tryd.pinned (.plain (OpenSpec.ofChange useKeepsSpec)) useKeepsCard

/-- THE TIED CARD OF 'touchmarklaw05.UseTrue'. -/
def useTrueCard : Claim7 := { stood := { row := useTrueRow, standIns := [], harness := (true, "bdc51485389628918f059a234c87eaa33700f62d275fece42f051b4828c787a2"), looks := false }, kinds := [], alts := [], goes := true, laidByText := true, laidKinds := [.funcs], laidTests := true, laidLooks := .later }
def UseTrueCardSaid : Prop := Claim7.holds Tryd.pinned (.plain (OpenSpec.ofChange useTrueSpec)) useTrueCard

/-- THE TIED CARD OF 'touchmarklaw05.UseKnown'. -/
def useKnownCard : Claim7 := { stood := { row := useKnownRow, standIns := [], harness := (true, "bdc51485389628918f059a234c87eaa33700f62d275fece42f051b4828c787a2"), looks := false }, kinds := [], alts := [], goes := true, laidByText := true, laidKinds := [.funcs], laidTests := true, laidLooks := .later }
def UseKnownCardSaid : Prop := Claim7.holds Tryd.pinned (.plain (OpenSpec.ofChange useKnownSpec)) useKnownCard

/-- THE TIED CARD OF 'touchmarklaw05.UseMore'. -/
def useMoreCard : Claim7 := { stood := { row := useMoreRow, standIns := [], harness := (true, "bdc51485389628918f059a234c87eaa33700f62d275fece42f051b4828c787a2"), looks := false }, kinds := [], alts := [], goes := true, laidByText := true, laidKinds := [.funcs], laidTests := true, laidLooks := .later }
def UseMoreCardSaid : Prop := Claim7.holds Tryd.pinned (.plain (OpenSpec.ofChange useMoreSpec)) useMoreCard

/-- THE TIED CARD OF 'touchmarklaw05.UseOrder'. -/
def useOrderCard : Claim7 := { stood := { row := useOrderRow, standIns := [], harness := (true, "bdc51485389628918f059a234c87eaa33700f62d275fece42f051b4828c787a2"), looks := false }, kinds := [], alts := [], goes := true, laidByText := true, laidKinds := [.funcs], laidTests := true, laidLooks := .later }
def UseOrderCardSaid : Prop := Claim7.holds Tryd.pinned (.plain (OpenSpec.ofChange useOrderSpec)) useOrderCard

/-- THE TIED CARD OF 'touchmarklaw05.UseRequests'. -/
def useRequestsCard : Claim7 := { stood := { row := useRequestsRow, standIns := [], harness := (true, "bdc51485389628918f059a234c87eaa33700f62d275fece42f051b4828c787a2"), looks := false }, kinds := [], alts := [], goes := true, laidByText := true, laidKinds := [.funcs], laidTests := true, laidLooks := .later }
def UseRequestsCardSaid : Prop := Claim7.holds Tryd.pinned (.plain (OpenSpec.ofChange useRequestsSpec)) useRequestsCard

/-- THE TIED CARD OF 'touchmarklaw05.UseKept'. -/
def useKeptCard : Claim7 := { stood := { row := useKeptRow, standIns := [], harness := (true, "bdc51485389628918f059a234c87eaa33700f62d275fece42f051b4828c787a2"), looks := false }, kinds := [], alts := [], goes := true, laidByText := true, laidKinds := [.funcs], laidTests := true, laidLooks := .later }
def UseKeptCardSaid : Prop := Claim7.holds Tryd.pinned (.plain (OpenSpec.ofChange useKeptSpec)) useKeptCard

/-- THE TIED CARD OF 'touchmarklaw05.UseLacking'. -/
def useLackingCard : Claim7 := { stood := { row := useLackingRow, standIns := [], harness := (true, "bdc51485389628918f059a234c87eaa33700f62d275fece42f051b4828c787a2"), looks := false }, kinds := [], alts := [], goes := true, laidByText := true, laidKinds := [.funcs], laidTests := true, laidLooks := .later }
def UseLackingCardSaid : Prop := Claim7.holds Tryd.pinned (.plain (OpenSpec.ofChange useLackingSpec)) useLackingCard

/-- THE TIED CARD OF 'touchmarklaw05.UseWindow'. -/
def useWindowCard : Claim7 := { stood := { row := useWindowRow, standIns := [], harness := (true, "bdc51485389628918f059a234c87eaa33700f62d275fece42f051b4828c787a2"), looks := false }, kinds := [], alts := [], goes := true, laidByText := true, laidKinds := [.funcs], laidTests := true, laidLooks := .later }
def UseWindowCardSaid : Prop := Claim7.holds Tryd.pinned (.plain (OpenSpec.ofChange useWindowSpec)) useWindowCard

/-- THE TIED CARD OF 'touchmarklaw05.UseWeak'. -/
def useWeakCard : Claim7 := { stood := { row := useWeakRow, standIns := [], harness := (true, "bdc51485389628918f059a234c87eaa33700f62d275fece42f051b4828c787a2"), looks := false }, kinds := [], alts := [], goes := true, laidByText := true, laidKinds := [.funcs], laidTests := true, laidLooks := .later }
def UseWeakCardSaid : Prop := Claim7.holds Tryd.pinned (.plain (OpenSpec.ofChange useWeakSpec)) useWeakCard

/-- THE SECOND FORM's CARD OF 'touchmarklaw05.UseWindows'. -/
def useWindowsUptoCard : Claim7 := { stood := { row := useWindowsUptoRow, standIns := [], harness := (true, "bdc51485389628918f059a234c87eaa33700f62d275fece42f051b4828c787a2"), looks := false }, kinds := [], alts := [], goes := true, laidByText := true, laidKinds := [.funcs], laidTests := true, laidLooks := .later }
def UseWindowsUptoCardSaid : Prop := Claim7.holds Tryd.pinned (.plain (OpenSpec.upto useWindowsSpec)) useWindowsUptoCard

/-- THE SECOND FORM's CARD OF 'touchmarklaw05.UseLefts'. -/
def useLeftsUptoCard : Claim7 := { stood := { row := useLeftsUptoRow, standIns := [], harness := (true, "bdc51485389628918f059a234c87eaa33700f62d275fece42f051b4828c787a2"), looks := false }, kinds := [], alts := [], goes := true, laidByText := true, laidKinds := [.funcs], laidTests := true, laidLooks := .later }
def UseLeftsUptoCardSaid : Prop := Claim7.holds Tryd.pinned (.plain (OpenSpec.upto useLeftsSpec)) useLeftsUptoCard

/-- THE SECOND FORM's CARD OF 'touchmarklaw05.UseKeeps'. -/
def useKeepsUptoCard : Claim7 := { stood := { row := useKeepsUptoRow, standIns := [], harness := (true, "bdc51485389628918f059a234c87eaa33700f62d275fece42f051b4828c787a2"), looks := false }, kinds := [], alts := [], goes := true, laidByText := true, laidKinds := [.funcs], laidTests := true, laidLooks := .later }
def UseKeepsUptoCardSaid : Prop := Claim7.holds Tryd.pinned (.plain (OpenSpec.upto useKeepsSpec)) useKeepsUptoCard

/-- THE SECOND FORM's CARD OF 'touchmarklaw05.UseTrue'. -/
def useTrueUptoCard : Claim7 := { stood := { row := useTrueUptoRow, standIns := [], harness := (true, "bdc51485389628918f059a234c87eaa33700f62d275fece42f051b4828c787a2"), looks := false }, kinds := [], alts := [], goes := true, laidByText := true, laidKinds := [.funcs], laidTests := true, laidLooks := .later }
def UseTrueUptoCardSaid : Prop := Claim7.holds Tryd.pinned (.plain (OpenSpec.upto useTrueSpec)) useTrueUptoCard

/-- THE SECOND FORM's CARD OF 'touchmarklaw05.UseKnown'. -/
def useKnownUptoCard : Claim7 := { stood := { row := useKnownUptoRow, standIns := [], harness := (true, "bdc51485389628918f059a234c87eaa33700f62d275fece42f051b4828c787a2"), looks := false }, kinds := [], alts := [], goes := true, laidByText := true, laidKinds := [.funcs], laidTests := true, laidLooks := .later }
def UseKnownUptoCardSaid : Prop := Claim7.holds Tryd.pinned (.plain (OpenSpec.upto useKnownSpec)) useKnownUptoCard

/-- THE SECOND FORM's CARD OF 'touchmarklaw05.UseMore'. -/
def useMoreUptoCard : Claim7 := { stood := { row := useMoreUptoRow, standIns := [], harness := (true, "bdc51485389628918f059a234c87eaa33700f62d275fece42f051b4828c787a2"), looks := false }, kinds := [], alts := [], goes := true, laidByText := true, laidKinds := [.funcs], laidTests := true, laidLooks := .later }
def UseMoreUptoCardSaid : Prop := Claim7.holds Tryd.pinned (.plain (OpenSpec.upto useMoreSpec)) useMoreUptoCard

/-- THE SECOND FORM's CARD OF 'touchmarklaw05.UseOrder'. -/
def useOrderUptoCard : Claim7 := { stood := { row := useOrderUptoRow, standIns := [], harness := (true, "bdc51485389628918f059a234c87eaa33700f62d275fece42f051b4828c787a2"), looks := false }, kinds := [], alts := [], goes := true, laidByText := true, laidKinds := [.funcs], laidTests := true, laidLooks := .later }
def UseOrderUptoCardSaid : Prop := Claim7.holds Tryd.pinned (.plain (OpenSpec.upto useOrderSpec)) useOrderUptoCard

/-- THE SECOND FORM's CARD OF 'touchmarklaw05.UseRequests'. -/
def useRequestsUptoCard : Claim7 := { stood := { row := useRequestsUptoRow, standIns := [], harness := (true, "bdc51485389628918f059a234c87eaa33700f62d275fece42f051b4828c787a2"), looks := false }, kinds := [], alts := [], goes := true, laidByText := true, laidKinds := [.funcs], laidTests := true, laidLooks := .later }
def UseRequestsUptoCardSaid : Prop := Claim7.holds Tryd.pinned (.plain (OpenSpec.upto useRequestsSpec)) useRequestsUptoCard

/-- THE SECOND FORM's CARD OF 'touchmarklaw05.UseKept'. -/
def useKeptUptoCard : Claim7 := { stood := { row := useKeptUptoRow, standIns := [], harness := (true, "bdc51485389628918f059a234c87eaa33700f62d275fece42f051b4828c787a2"), looks := false }, kinds := [], alts := [], goes := true, laidByText := true, laidKinds := [.funcs], laidTests := true, laidLooks := .later }
def UseKeptUptoCardSaid : Prop := Claim7.holds Tryd.pinned (.plain (OpenSpec.upto useKeptSpec)) useKeptUptoCard

/-- THE SECOND FORM's CARD OF 'touchmarklaw05.UseLacking'. -/
def useLackingUptoCard : Claim7 := { stood := { row := useLackingUptoRow, standIns := [], harness := (true, "bdc51485389628918f059a234c87eaa33700f62d275fece42f051b4828c787a2"), looks := false }, kinds := [], alts := [], goes := true, laidByText := true, laidKinds := [.funcs], laidTests := true, laidLooks := .later }
def UseLackingUptoCardSaid : Prop := Claim7.holds Tryd.pinned (.plain (OpenSpec.upto useLackingSpec)) useLackingUptoCard

/-- THE SECOND FORM's CARD OF 'touchmarklaw05.UseWindow'. -/
def useWindowUptoCard : Claim7 := { stood := { row := useWindowUptoRow, standIns := [], harness := (true, "bdc51485389628918f059a234c87eaa33700f62d275fece42f051b4828c787a2"), looks := false }, kinds := [], alts := [], goes := true, laidByText := true, laidKinds := [.funcs], laidTests := true, laidLooks := .later }
def UseWindowUptoCardSaid : Prop := Claim7.holds Tryd.pinned (.plain (OpenSpec.upto useWindowSpec)) useWindowUptoCard

/-- THE SECOND FORM's CARD OF 'touchmarklaw05.UseWeak'. -/
def useWeakUptoCard : Claim7 := { stood := { row := useWeakUptoRow, standIns := [], harness := (true, "bdc51485389628918f059a234c87eaa33700f62d275fece42f051b4828c787a2"), looks := false }, kinds := [], alts := [], goes := true, laidByText := true, laidKinds := [.funcs], laidTests := true, laidLooks := .later }
def UseWeakUptoCardSaid : Prop := Claim7.holds Tryd.pinned (.plain (OpenSpec.upto useWeakSpec)) useWeakUptoCard
end Rows
end Go.Proofs.YtibibhojkfapnaaDoor

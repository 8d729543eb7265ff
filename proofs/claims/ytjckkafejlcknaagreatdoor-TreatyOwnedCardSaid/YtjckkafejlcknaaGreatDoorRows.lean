/-
  NARROWER THAN 'FOR EVERY INPUT', by the rows' own cells (each row's printed sentence says how): TreatyOwned: laid.
  DERIVED. THE GIVEN ROWS OF THIS SEAT. 1 by the template 'for every input the law returns true; each argument reads behind the call as it read before'; 0 by the template 'total and deterministic' (their statements: YtjckkafejlcknaaGreatDoorTotals.lean).
  GIVEN WITH THE SEED: the statements are not yours to turn. If you find one false, say at which input.
  Laid BY PROGRAM, IN A SANDBOX (cutbox-rows.mjs): the forced cells as the released guide's own fill.sh prints them over the translation e51123a8867bb4fe… (all of the seat's roots in one cut). By AI agents, Wed Nov 11 2026. No macro, syntax, notation, axiom, sorry.
-/
import Derived.Test.YtjckkafejlcknaaGreatDoorChecked
import GoSem.PinnedTables
import GoSem.Claim
import GoSem.ClaimJoined
import GoSem.ClaimMapViews
import Derived.JoinedTies
import Derived.KernelRfl
namespace Go.Proofs.YtjckkafejlcknaaGreatDoor
/- THE CELL 'sum', in the pinned program and in every row, IS THE sha256 OF THE DUMP (.gsa) THAT YtjckkafejlcknaaGreatDoorProg.lean LOADS. Nothing in Lean hashes anything: it is a label: what it is worth is what the hold of that sum in a sandbox is worth. -/
noncomputable def Tryz.pinned : Pinned := { name := "ytjckkafejlcknaagreatdoor", sum := "e51123a8867bb4fe63fc8d83d2a081d66a8c55948c0b38ce2f0c78c67d39210e", checked := Tryz.checked }
namespace Rows
def none {H : Type} : Left H := { results := [], args := [] }

/- WHAT THE LISTED PACKAGE-LEVEL VARIABLES READ AS WHEN THE CALL BEGINS. Each datum BY PROGRAM (the guide's laid-datum.mjs) off the statement by which the dump's own 'gosem.cut.vars' lays the variable. In a bare row this is a premise. The card (YtjckkafejlcknaaGreatDoorCards.lean) ties it to the program's text. -/
def laid_unicode_utf8_acceptRanges {H : Type} : DataW H := .agg [.agg [.lit (.int .u8 128), .lit (.int .u8 191)], .agg [.lit (.int .u8 160), .lit (.int .u8 191)], .agg [.lit (.int .u8 128), .lit (.int .u8 159)], .agg [.lit (.int .u8 144), .lit (.int .u8 191)], .agg [.lit (.int .u8 128), .lit (.int .u8 143)], .agg [.lit (.int .u8 0), .lit (.int .u8 0)], .agg [.lit (.int .u8 0), .lit (.int .u8 0)], .agg [.lit (.int .u8 0), .lit (.int .u8 0)], .agg [.lit (.int .u8 0), .lit (.int .u8 0)], .agg [.lit (.int .u8 0), .lit (.int .u8 0)], .agg [.lit (.int .u8 0), .lit (.int .u8 0)], .agg [.lit (.int .u8 0), .lit (.int .u8 0)], .agg [.lit (.int .u8 0), .lit (.int .u8 0)], .agg [.lit (.int .u8 0), .lit (.int .u8 0)], .agg [.lit (.int .u8 0), .lit (.int .u8 0)], .agg [.lit (.int .u8 0), .lit (.int .u8 0)]]
def laid_touchmark_title_kinds {H : Type} : DataW H := .iface "func table" (.agg [.agg [.lit (.string [103, 105, 118, 101]), .lit (.bool true), .iface "func" (.lit (.string [40, 42, 116, 111, 117, 99, 104, 109, 97, 114, 107, 47, 116, 105, 116, 108, 101, 46, 115, 116, 97, 116, 101, 41, 46, 103, 105, 118, 101]))], .agg [.lit (.string [109, 101, 114, 103, 101]), .lit (.bool true), .iface "func" (.lit (.string [40, 42, 116, 111, 117, 99, 104, 109, 97, 114, 107, 47, 116, 105, 116, 108, 101, 46, 115, 116, 97, 116, 101, 41, 46, 109, 101, 114, 103, 101]))], .agg [.lit (.string [112, 108, 101, 100, 103, 101]), .lit (.bool false), .iface "func" (.lit (.string [40, 42, 116, 111, 117, 99, 104, 109, 97, 114, 107, 47, 116, 105, 116, 108, 101, 46, 115, 116, 97, 116, 101, 41, 46, 104, 111, 108, 100]))], .agg [.lit (.string [108, 105, 99, 101, 110, 115, 101]), .lit (.bool false), .iface "func" (.lit (.string [116, 111, 117, 99, 104, 109, 97, 114, 107, 47, 116, 105, 116, 108, 101, 46, 107, 105, 110, 100, 115, 36, 49]))]])
def laid_touchmark_treaty_bound {H : Type} : DataW H := .agg [.lit (.bool true), .lit (.bool false)]
def laid_touchmark_treaty_kinds {H : Type} : DataW H := .iface "func table" (.agg [.agg [.lit (.string [97, 115, 107]), .agg [.lit (.bool true), .lit (.bool false)], .iface "func" (.lit (.string [116, 111, 117, 99, 104, 109, 97, 114, 107, 47, 116, 114, 101, 97, 116, 121, 46, 121, 101, 115]))], .agg [.lit (.string [114, 101, 102, 117, 115, 101]), .agg [.lit (.bool true), .lit (.bool false)], .iface "func" (.lit (.string [116, 111, 117, 99, 104, 109, 97, 114, 107, 47, 116, 114, 101, 97, 116, 121, 46, 110, 111]))], .agg [.lit (.string [108, 105, 102, 116]), .agg [.lit (.bool true), .lit (.bool false)], .iface "func" (.lit (.string [116, 111, 117, 99, 104, 109, 97, 114, 107, 47, 116, 114, 101, 97, 116, 121, 46, 121, 101, 115]))], .agg [.lit (.string [108, 105, 109, 105, 116]), .agg [.lit (.bool true), .lit (.bool false)], .iface "func" (.lit (.string [116, 111, 117, 99, 104, 109, 97, 114, 107, 47, 116, 114, 101, 97, 116, 121, 46, 110, 111]))], .agg [.lit (.string [102, 97, 108, 108]), .agg [.lit (.bool false), .lit (.bool true)], .iface "func" (.lit (.string [116, 111, 117, 99, 104, 109, 97, 114, 107, 47, 116, 114, 101, 97, 116, 121, 46, 110, 111]))], .agg [.lit (.string [116, 117, 114, 110]), .agg [.lit (.bool true), .lit (.bool false)], .iface "func" (.lit (.string [116, 111, 117, 99, 104, 109, 97, 114, 107, 47, 116, 114, 101, 97, 116, 121, 46, 121, 101, 115]))], .agg [.lit (.string [111, 108, 100]), .agg [.lit (.bool true), .lit (.bool true)], .iface "func" (.lit (.string [116, 111, 117, 99, 104, 109, 97, 114, 107, 47, 116, 114, 101, 97, 116, 121, 46, 110, 111]))]])
/-- One of Go's own tables, pinned by name: the form's constant. -/
def laid_unicode_utf8_first : DataW Unit := Go.Pinned.utf8First

/-- 'touchmarklaw07.TreatyOwned': WHATEVER THE INPUT: true; the input reads as it did. -/
def treatyOwnedSpec : ChangeSpec := { name := "treatyOwned", fn := fun _ => fun
  | [d1, d2, d3, d4, d5, d6, d7, d8] => { results := [.lit (.bool true)], args := [d1, d2, d3, d4, d5, d6, d7, d8] }
  | _ => none }
def treatyOwnedRow : OpenClaim := { program := "ytjckkafejlcknaagreatdoor", sum := "e51123a8867bb4fe63fc8d83d2a081d66a8c55948c0b38ce2f0c78c67d39210e", func := "touchmark/touchmarklaw07.TreatyOwned", spec := "treatyOwned", inPlace := ["internal/bytealg.IndexByteString", "internal/bytealg.IndexString"], unfollowed := true, recurses := true, named := ["touchmark/treaty.kinds", "touchmark/treaty.bound", "unicode/utf8.first", "unicode/utf8.acceptRanges", "touchmark/title.kinds", "internal/bytealg.MaxLen"], plainKeys := false, leaving := true, apart := false, laid := [("unicode/utf8.acceptRanges", laid_unicode_utf8_acceptRanges), ("touchmark/title.kinds", laid_touchmark_title_kinds), ("touchmark/treaty.bound", laid_touchmark_treaty_bound), ("touchmark/treaty.kinds", laid_touchmark_treaty_kinds), ("unicode/utf8.first", laid_unicode_utf8_first)] }
def TreatyOwnedSaid : Prop := treatyOwnedRow.holds Tryz.pinned (OpenSpec.ofChange treatyOwnedSpec)

/-- ITS FALSE NEIGHBOUR: 'it returns false'. Refute it at one input. -/
def treatyOwnedWrong : ChangeSpec := { name := "treatyOwned", fn := fun _ => fun
  | [d1, d2, d3, d4, d5, d6, d7, d8] => { results := [.lit (.bool false)], args := [d1, d2, d3, d4, d5, d6, d7, d8] }
  | _ => none }
def TreatyOwnedWrongFalsely : Prop := treatyOwnedRow.holds Tryz.pinned (OpenSpec.ofChange treatyOwnedWrong)

/- THE SECOND FORM. 'bulk': how many values and letters a reading holds, each counted each time it is reached (what is shared counts as often as it is met; a slice's spare places count too). A statement '..UptoSaid' is the law's where the arguments, and the package variables that the reading takes, are together of bulk at most 1048576: NARROWER than '..Said'. Prove '..Said' where nothing that the law and all that it calls make is longer than what came in: it says more and counts as full. Else prove '..UptoSaid'. A law counts once. -/
mutual
def uptoBulk {H : Type} : DataW H → Nat
  | .lit (.string bytes) => bytes.length + 1
  | .lit _ => 1
  | .nil => 1
  | .ptr d => uptoBulk d + 1
  | .slice elems spare => uptoBulkAll elems + uptoBulkAll spare + 1
  | .agg parts => uptoBulkAll parts + 1
  | .iface _ d => uptoBulk d + 1
  | .map entries => uptoBulkEntries entries + 1
  | .held _ => 1
def uptoBulkAll {H : Type} : List (DataW H) → Nat
  | [] => 0
  | d :: r => uptoBulk d + uptoBulkAll r
def uptoBulkEntries {H : Type} : List (Lit × DataW H) → Nat
  | [] => 0
  | x :: r => uptoBulkEntry x + uptoBulkEntries r
def uptoBulkEntry {H : Type} : Lit × DataW H → Nat
  | (.string bytes, d) => bytes.length + uptoBulk d + 1
  | (_, d) => uptoBulk d + 1
 end
def uptoSmall : (H : Type) → List (DataW H) → Bool := fun _ ds => decide (uptoBulkAll ds ≤ 1048576)
def OpenSpec.upto (s : _root_.Go.ChangeSpec) : _root_.Go.OpenSpec := { _root_.Go.OpenSpec.ofChange s with cond := some uptoSmall }

/-- 'touchmarklaw07.TreatyOwned', WHERE WHAT IT READS IS OF BULK AT MOST 1048576: true; the input reads as it did. -/
def treatyOwnedUptoRow : OpenClaim := { program := "ytjckkafejlcknaagreatdoor", sum := "e51123a8867bb4fe63fc8d83d2a081d66a8c55948c0b38ce2f0c78c67d39210e", func := "touchmark/touchmarklaw07.TreatyOwned", spec := "treatyOwned", inPlace := ["internal/bytealg.IndexByteString", "internal/bytealg.IndexString"], unfollowed := true, recurses := true, named := ["touchmark/treaty.kinds", "touchmark/treaty.bound", "unicode/utf8.first", "unicode/utf8.acceptRanges", "touchmark/title.kinds", "internal/bytealg.MaxLen"], plainKeys := false, leaving := true, apart := false, laid := [("unicode/utf8.acceptRanges", laid_unicode_utf8_acceptRanges), ("touchmark/title.kinds", laid_touchmark_title_kinds), ("touchmark/treaty.bound", laid_touchmark_treaty_bound), ("touchmark/treaty.kinds", laid_touchmark_treaty_kinds), ("unicode/utf8.first", laid_unicode_utf8_first)], narrowed := true }
def TreatyOwnedUptoSaid : Prop := treatyOwnedUptoRow.holds Tryz.pinned (OpenSpec.upto treatyOwnedSpec)

end Rows
end Go.Proofs.YtjckkafejlcknaaGreatDoor

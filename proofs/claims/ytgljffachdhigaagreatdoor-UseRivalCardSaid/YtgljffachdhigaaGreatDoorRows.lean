/-
  NARROWER THAN 'FOR EVERY INPUT', by the rows' own cells (each row's printed sentence says how): UseRival: laid · TreatyRival: laid.
  DERIVED. THE GIVEN ROWS OF THIS SEAT. 2 by the template 'for every input the law returns true; each argument reads behind the call as it read before'; 0 by the template 'total and deterministic' (their statements: YtgljffachdhigaaGreatDoorTotals.lean).
  GIVEN WITH THE SEED: the statements are not yours to turn. If you find one false, say at which input.
  Laid BY PROGRAM, IN A SANDBOX (cutbox-rows.mjs): the forced cells as the released guide's own fill.sh prints them over the translation 5d2ebd64c34ef0dc… (all of the seat's roots in one cut). By AI agents, Wed Nov 11 2026. No macro, syntax, notation, axiom, sorry.
-/
import Derived.Test.YtgljffachdhigaaGreatDoorChecked
import GoSem.Claim
import GoSem.ClaimJoined
import GoSem.ClaimMapViews
import Derived.JoinedTies
import Derived.KernelRfl
namespace Go.Proofs.YtgljffachdhigaaGreatDoor
/- THE CELL 'sum', in the pinned program and in every row, IS THE sha256 OF THE DUMP (.gsa) THAT YtgljffachdhigaaGreatDoorProg.lean LOADS. Nothing in Lean hashes anything: it is a label: what it is worth is what the hold of that sum in a sandbox is worth. -/
noncomputable def Tryz.pinned : Pinned := { name := "ytgljffachdhigaagreatdoor", sum := "5d2ebd64c34ef0dcaccd45deea50a2a5146fb802c080c1eaab77d17e8d201a48", checked := Tryz.checked }
namespace Rows
def none {H : Type} : Left H := { results := [], args := [] }

/- WHAT THE LISTED PACKAGE-LEVEL VARIABLES READ AS WHEN THE CALL BEGINS. Each datum BY PROGRAM (the guide's laid-datum.mjs) off the statement by which the dump's own 'gosem.cut.vars' lays the variable. In a bare row this is a premise. The card (YtgljffachdhigaaGreatDoorCards.lean) ties it to the program's text. -/
def laid_touchmark_rival_checks {H : Type} : DataW H := .iface "func table" (.agg [.iface "func" (.lit (.string [40, 116, 111, 117, 99, 104, 109, 97, 114, 107, 47, 114, 105, 118, 97, 108, 46, 98, 111, 111, 107, 41, 46, 114, 105, 103, 104, 116, 115])), .iface "func" (.lit (.string [40, 116, 111, 117, 99, 104, 109, 97, 114, 107, 47, 114, 105, 118, 97, 108, 46, 98, 111, 111, 107, 41, 46, 99, 97, 115, 101, 115])), .iface "func" (.lit (.string [40, 116, 111, 117, 99, 104, 109, 97, 114, 107, 47, 114, 105, 118, 97, 108, 46, 98, 111, 111, 107, 41, 46, 108, 111, 111, 112, 115]))])
def laid_touchmark_use_parts {H : Type} : DataW H := .iface "func table" (.agg [.iface "func" (.lit (.string [40, 116, 111, 117, 99, 104, 109, 97, 114, 107, 47, 117, 115, 101, 46, 102, 105, 108, 101, 41, 46, 110, 117, 109, 98, 101, 114, 115])), .iface "func" (.lit (.string [40, 116, 111, 117, 99, 104, 109, 97, 114, 107, 47, 117, 115, 101, 46, 102, 105, 108, 101, 41, 46, 101, 120, 99, 117, 115, 101, 115])), .iface "func" (.lit (.string [40, 116, 111, 117, 99, 104, 109, 97, 114, 107, 47, 117, 115, 101, 46, 102, 105, 108, 101, 41, 46, 112, 97, 112, 101, 114, 115])), .iface "func" (.lit (.string [40, 116, 111, 117, 99, 104, 109, 97, 114, 107, 47, 117, 115, 101, 46, 102, 105, 108, 101, 41, 46, 114, 101, 113, 117, 101, 115, 116, 115]))])
def laid_touchmark_treaty_bound {H : Type} : DataW H := .agg [.lit (.bool true), .lit (.bool false)]
def laid_touchmark_treaty_kinds {H : Type} : DataW H := .iface "func table" (.agg [.agg [.lit (.string [97, 115, 107]), .agg [.lit (.bool true), .lit (.bool false)], .iface "func" (.lit (.string [116, 111, 117, 99, 104, 109, 97, 114, 107, 47, 116, 114, 101, 97, 116, 121, 46, 121, 101, 115]))], .agg [.lit (.string [114, 101, 102, 117, 115, 101]), .agg [.lit (.bool true), .lit (.bool false)], .iface "func" (.lit (.string [116, 111, 117, 99, 104, 109, 97, 114, 107, 47, 116, 114, 101, 97, 116, 121, 46, 110, 111]))], .agg [.lit (.string [108, 105, 102, 116]), .agg [.lit (.bool true), .lit (.bool false)], .iface "func" (.lit (.string [116, 111, 117, 99, 104, 109, 97, 114, 107, 47, 116, 114, 101, 97, 116, 121, 46, 121, 101, 115]))], .agg [.lit (.string [108, 105, 109, 105, 116]), .agg [.lit (.bool true), .lit (.bool false)], .iface "func" (.lit (.string [116, 111, 117, 99, 104, 109, 97, 114, 107, 47, 116, 114, 101, 97, 116, 121, 46, 110, 111]))], .agg [.lit (.string [102, 97, 108, 108]), .agg [.lit (.bool false), .lit (.bool true)], .iface "func" (.lit (.string [116, 111, 117, 99, 104, 109, 97, 114, 107, 47, 116, 114, 101, 97, 116, 121, 46, 110, 111]))], .agg [.lit (.string [116, 117, 114, 110]), .agg [.lit (.bool true), .lit (.bool false)], .iface "func" (.lit (.string [116, 111, 117, 99, 104, 109, 97, 114, 107, 47, 116, 114, 101, 97, 116, 121, 46, 121, 101, 115]))], .agg [.lit (.string [111, 108, 100]), .agg [.lit (.bool true), .lit (.bool true)], .iface "func" (.lit (.string [116, 111, 117, 99, 104, 109, 97, 114, 107, 47, 116, 114, 101, 97, 116, 121, 46, 110, 111]))]])

/-- 'touchmarklaw05.UseRival': WHATEVER THE INPUT: true; the input reads as it did. -/
def useRivalSpec : ChangeSpec := { name := "useRival", fn := fun _ => fun
  | [d1, d2, d3, d4, d5, d6] => { results := [.lit (.bool true)], args := [d1, d2, d3, d4, d5, d6] }
  | _ => none }
def useRivalRow : OpenClaim := { program := "ytgljffachdhigaagreatdoor", sum := "5d2ebd64c34ef0dcaccd45deea50a2a5146fb802c080c1eaab77d17e8d201a48", func := "touchmark/touchmarklaw05.UseRival", spec := "useRival", unfollowed := true, recurses := true, named := ["touchmark/use.parts", "touchmark/rival.checks"], plainKeys := false, leaving := true, apart := false, laid := [("touchmark/rival.checks", laid_touchmark_rival_checks), ("touchmark/use.parts", laid_touchmark_use_parts)] }
def UseRivalSaid : Prop := useRivalRow.holds Tryz.pinned (OpenSpec.ofChange useRivalSpec)

/-- ITS FALSE NEIGHBOUR: 'it returns false'. Refute it at one input. -/
def useRivalWrong : ChangeSpec := { name := "useRival", fn := fun _ => fun
  | [d1, d2, d3, d4, d5, d6] => { results := [.lit (.bool false)], args := [d1, d2, d3, d4, d5, d6] }
  | _ => none }
def UseRivalWrongFalsely : Prop := useRivalRow.holds Tryz.pinned (OpenSpec.ofChange useRivalWrong)

/-- 'touchmarklaw07.TreatyRival': WHATEVER THE INPUT: true; the input reads as it did. -/
def treatyRivalSpec : ChangeSpec := { name := "treatyRival", fn := fun _ => fun
  | [d1, d2, d3, d4, d5, d6, d7] => { results := [.lit (.bool true)], args := [d1, d2, d3, d4, d5, d6, d7] }
  | _ => none }
def treatyRivalRow : OpenClaim := { program := "ytgljffachdhigaagreatdoor", sum := "5d2ebd64c34ef0dcaccd45deea50a2a5146fb802c080c1eaab77d17e8d201a48", func := "touchmark/touchmarklaw07.TreatyRival", spec := "treatyRival", unfollowed := true, recurses := true, named := ["touchmark/treaty.kinds", "touchmark/treaty.bound", "touchmark/rival.checks"], plainKeys := false, leaving := true, apart := false, laid := [("touchmark/rival.checks", laid_touchmark_rival_checks), ("touchmark/treaty.bound", laid_touchmark_treaty_bound), ("touchmark/treaty.kinds", laid_touchmark_treaty_kinds)] }
def TreatyRivalSaid : Prop := treatyRivalRow.holds Tryz.pinned (OpenSpec.ofChange treatyRivalSpec)

/-- ITS FALSE NEIGHBOUR: 'it returns false'. Refute it at one input. -/
def treatyRivalWrong : ChangeSpec := { name := "treatyRival", fn := fun _ => fun
  | [d1, d2, d3, d4, d5, d6, d7] => { results := [.lit (.bool false)], args := [d1, d2, d3, d4, d5, d6, d7] }
  | _ => none }
def TreatyRivalWrongFalsely : Prop := treatyRivalRow.holds Tryz.pinned (OpenSpec.ofChange treatyRivalWrong)

/- THE SECOND FORM. 'bulk': how many values and letters a reading holds, each counted each time it is reached (what is shared counts as often as it is met; a slice's spare places count too). A statement '..UptoSaid' is the law's where the arguments, and the package variables that the reading takes, are together of bulk at most 1048576: NARROWER than '..Said'. Prove '..Said' where nothing that the law and all that it calls make is longer than what came in: it says more and counts as full. Else prove '..UptoSaid'. A law counts once. -/
mutual
def uptoBulk {H : Type} : DataW H → Nat
  | .lit (.string bytes) => bytes.length + 1
  | .lit _ => 1
  | .nil => 1
  | .ptr d => uptoBulk d + 1
  | .slice elems spare => uptoBulkAll elems + uptoBulkAll spare + 1
  | .agg parts => uptoBulkAll parts + 1
  | .iface _ d => uptoBulk d + 1
  | .map entries => uptoBulkEntries entries + 1
  | .held _ => 1
def uptoBulkAll {H : Type} : List (DataW H) → Nat
  | [] => 0
  | d :: r => uptoBulk d + uptoBulkAll r
def uptoBulkEntries {H : Type} : List (Lit × DataW H) → Nat
  | [] => 0
  | x :: r => uptoBulkEntry x + uptoBulkEntries r
def uptoBulkEntry {H : Type} : Lit × DataW H → Nat
  | (.string bytes, d) => bytes.length + uptoBulk d + 1
  | (_, d) => uptoBulk d + 1
 end
def uptoSmall : (H : Type) → List (DataW H) → Bool := fun _ ds => decide (uptoBulkAll ds ≤ 1048576)
def OpenSpec.upto (s : _root_.Go.ChangeSpec) : _root_.Go.OpenSpec := { _root_.Go.OpenSpec.ofChange s with cond := some uptoSmall }

/-- 'touchmarklaw05.UseRival', WHERE WHAT IT READS IS OF BULK AT MOST 1048576: true; the input reads as it did. -/
def useRivalUptoRow : OpenClaim := { program := "ytgljffachdhigaagreatdoor", sum := "5d2ebd64c34ef0dcaccd45deea50a2a5146fb802c080c1eaab77d17e8d201a48", func := "touchmark/touchmarklaw05.UseRival", spec := "useRival", unfollowed := true, recurses := true, named := ["touchmark/use.parts", "touchmark/rival.checks"], plainKeys := false, leaving := true, apart := false, laid := [("touchmark/rival.checks", laid_touchmark_rival_checks), ("touchmark/use.parts", laid_touchmark_use_parts)], narrowed := true }
def UseRivalUptoSaid : Prop := useRivalUptoRow.holds Tryz.pinned (OpenSpec.upto useRivalSpec)

/-- 'touchmarklaw07.TreatyRival', WHERE WHAT IT READS IS OF BULK AT MOST 1048576: true; the input reads as it did. -/
def treatyRivalUptoRow : OpenClaim := { program := "ytgljffachdhigaagreatdoor", sum := "5d2ebd64c34ef0dcaccd45deea50a2a5146fb802c080c1eaab77d17e8d201a48", func := "touchmark/touchmarklaw07.TreatyRival", spec := "treatyRival", unfollowed := true, recurses := true, named := ["touchmark/treaty.kinds", "touchmark/treaty.bound", "touchmark/rival.checks"], plainKeys := false, leaving := true, apart := false, laid := [("touchmark/rival.checks", laid_touchmark_rival_checks), ("touchmark/treaty.bound", laid_touchmark_treaty_bound), ("touchmark/treaty.kinds", laid_touchmark_treaty_kinds)], narrowed := true }
def TreatyRivalUptoSaid : Prop := treatyRivalUptoRow.holds Tryz.pinned (OpenSpec.upto treatyRivalSpec)

end Rows
end Go.Proofs.YtgljffachdhigaaGreatDoor

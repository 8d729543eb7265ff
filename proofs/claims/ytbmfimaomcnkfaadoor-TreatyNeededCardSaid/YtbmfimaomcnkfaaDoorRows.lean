/-
  NARROWER THAN 'FOR EVERY INPUT', by the rows' own cells (each row's printed sentence says how): TreatyStates: laid · TreatyDates: laid · TreatyAnyOrder: laid · TreatyCentral: laid · TreatyTurned: laid · TreatyGiving: laid · TreatyTaking: laid · TreatySpanned: laid · TreatyDated: laid · TreatyLate: laid · TreatyApart: laid · TreatyEvents: laid · TreatyNeeded: laid.
  DERIVED. THE GIVEN ROWS OF THIS SEAT. 13 by the template 'for every input the law returns true; each argument reads behind the call as it read before'; 0 by the template 'total and deterministic' (their statements: YtbmfimaomcnkfaaDoorTotals.lean).
  GIVEN WITH THE SEED: the statements are not yours to turn. If you find one false, say at which input.
  Laid BY PROGRAM, IN A SANDBOX (cutbox-rows.mjs): the forced cells as the released guide's own fill.sh prints them over the translation 9a36568802a4cdc8… (all of the seat's roots in one cut). By AI agents, Wed Nov 11 2026. No macro, syntax, notation, axiom, sorry.
-/
import Derived.Test.YtbmfimaomcnkfaaDoorChecked
import GoSem.Claim
import GoSem.ClaimJoined
import GoSem.ClaimMapViews
import Derived.JoinedTies
import Derived.KernelRfl
namespace Go.Proofs.YtbmfimaomcnkfaaDoor
/- THE CELL 'sum', in the pinned program and in every row, IS THE sha256 OF THE DUMP (.gsa) THAT YtbmfimaomcnkfaaDoorProg.lean LOADS. Nothing in Lean hashes anything: it is a label: what it is worth is what the hold of that sum in a sandbox is worth. -/
noncomputable def Tryd.pinned : Pinned := { name := "ytbmfimaomcnkfaadoor", sum := "9a36568802a4cdc8596aac44b1b39f4954ca2dfe28c35fa31b7659a4e198b403", checked := Tryd.checked }
namespace Rows
def none {H : Type} : Left H := { results := [], args := [] }

/- WHAT THE LISTED PACKAGE-LEVEL VARIABLES READ AS WHEN THE CALL BEGINS. Each datum BY PROGRAM (the guide's laid-datum.mjs) off the statement by which the dump's own 'gosem.cut.vars' lays the variable. In a bare row this is a premise. The card (YtbmfimaomcnkfaaDoorCards.lean) ties it to the program's text. -/
def laid_touchmark_treaty_bound {H : Type} : DataW H := .agg [.lit (.bool true), .lit (.bool false)]
def laid_touchmark_treaty_kinds {H : Type} : DataW H := .iface "func table" (.agg [.agg [.lit (.string [97, 115, 107]), .agg [.lit (.bool true), .lit (.bool false)], .iface "func" (.lit (.string [116, 111, 117, 99, 104, 109, 97, 114, 107, 47, 116, 114, 101, 97, 116, 121, 46, 121, 101, 115]))], .agg [.lit (.string [114, 101, 102, 117, 115, 101]), .agg [.lit (.bool true), .lit (.bool false)], .iface "func" (.lit (.string [116, 111, 117, 99, 104, 109, 97, 114, 107, 47, 116, 114, 101, 97, 116, 121, 46, 110, 111]))], .agg [.lit (.string [108, 105, 102, 116]), .agg [.lit (.bool true), .lit (.bool false)], .iface "func" (.lit (.string [116, 111, 117, 99, 104, 109, 97, 114, 107, 47, 116, 114, 101, 97, 116, 121, 46, 121, 101, 115]))], .agg [.lit (.string [108, 105, 109, 105, 116]), .agg [.lit (.bool true), .lit (.bool false)], .iface "func" (.lit (.string [116, 111, 117, 99, 104, 109, 97, 114, 107, 47, 116, 114, 101, 97, 116, 121, 46, 110, 111]))], .agg [.lit (.string [102, 97, 108, 108]), .agg [.lit (.bool false), .lit (.bool true)], .iface "func" (.lit (.string [116, 111, 117, 99, 104, 109, 97, 114, 107, 47, 116, 114, 101, 97, 116, 121, 46, 110, 111]))], .agg [.lit (.string [116, 117, 114, 110]), .agg [.lit (.bool true), .lit (.bool false)], .iface "func" (.lit (.string [116, 111, 117, 99, 104, 109, 97, 114, 107, 47, 116, 114, 101, 97, 116, 121, 46, 121, 101, 115]))], .agg [.lit (.string [111, 108, 100]), .agg [.lit (.bool true), .lit (.bool true)], .iface "func" (.lit (.string [116, 111, 117, 99, 104, 109, 97, 114, 107, 47, 116, 114, 101, 97, 116, 121, 46, 110, 111]))]])

/-- 'touchmarklaw07.TreatyStates': WHATEVER THE INPUT: true; the input reads as it did. -/
def treatyStatesSpec : ChangeSpec := { name := "treatyStates", fn := fun _ => fun
  | [d1, d2, d3, d4] => { results := [.lit (.bool true)], args := [d1, d2, d3, d4] }
  | _ => none }
def treatyStatesRow : OpenClaim := { program := "ytbmfimaomcnkfaadoor", sum := "9a36568802a4cdc8596aac44b1b39f4954ca2dfe28c35fa31b7659a4e198b403", func := "touchmark/touchmarklaw07.TreatyStates", spec := "treatyStates", unfollowed := true, recurses := true, named := ["touchmark/treaty.kinds", "touchmark/treaty.bound"], leaving := true, apart := false, laid := [("touchmark/treaty.bound", laid_touchmark_treaty_bound), ("touchmark/treaty.kinds", laid_touchmark_treaty_kinds)] }
def TreatyStatesSaid : Prop := treatyStatesRow.holds Tryd.pinned (OpenSpec.ofChange treatyStatesSpec)

/-- ITS FALSE NEIGHBOUR: 'it returns false'. Refute it at one input. -/
def treatyStatesWrong : ChangeSpec := { name := "treatyStates", fn := fun _ => fun
  | [d1, d2, d3, d4] => { results := [.lit (.bool false)], args := [d1, d2, d3, d4] }
  | _ => none }
def TreatyStatesWrongFalsely : Prop := treatyStatesRow.holds Tryd.pinned (OpenSpec.ofChange treatyStatesWrong)

/-- 'touchmarklaw07.TreatyDates': WHATEVER THE INPUT: true; the input reads as it did. -/
def treatyDatesSpec : ChangeSpec := { name := "treatyDates", fn := fun _ => fun
  | [d1, d2, d3] => { results := [.lit (.bool true)], args := [d1, d2, d3] }
  | _ => none }
def treatyDatesRow : OpenClaim := { program := "ytbmfimaomcnkfaadoor", sum := "9a36568802a4cdc8596aac44b1b39f4954ca2dfe28c35fa31b7659a4e198b403", func := "touchmark/touchmarklaw07.TreatyDates", spec := "treatyDates", unfollowed := true, recurses := true, named := ["touchmark/treaty.kinds", "touchmark/treaty.bound"], leaving := true, apart := false, laid := [("touchmark/treaty.bound", laid_touchmark_treaty_bound), ("touchmark/treaty.kinds", laid_touchmark_treaty_kinds)] }
def TreatyDatesSaid : Prop := treatyDatesRow.holds Tryd.pinned (OpenSpec.ofChange treatyDatesSpec)

/-- ITS FALSE NEIGHBOUR: 'it returns false'. Refute it at one input. -/
def treatyDatesWrong : ChangeSpec := { name := "treatyDates", fn := fun _ => fun
  | [d1, d2, d3] => { results := [.lit (.bool false)], args := [d1, d2, d3] }
  | _ => none }
def TreatyDatesWrongFalsely : Prop := treatyDatesRow.holds Tryd.pinned (OpenSpec.ofChange treatyDatesWrong)

/-- 'touchmarklaw07.TreatyAnyOrder': WHATEVER THE INPUT: true; the input reads as it did. -/
def treatyAnyOrderSpec : ChangeSpec := { name := "treatyAnyOrder", fn := fun _ => fun
  | [d1, d2, d3, d4, d5] => { results := [.lit (.bool true)], args := [d1, d2, d3, d4, d5] }
  | _ => none }
def treatyAnyOrderRow : OpenClaim := { program := "ytbmfimaomcnkfaadoor", sum := "9a36568802a4cdc8596aac44b1b39f4954ca2dfe28c35fa31b7659a4e198b403", func := "touchmark/touchmarklaw07.TreatyAnyOrder", spec := "treatyAnyOrder", unfollowed := true, recurses := true, named := ["touchmark/treaty.kinds", "touchmark/treaty.bound"], leaving := true, apart := false, laid := [("touchmark/treaty.bound", laid_touchmark_treaty_bound), ("touchmark/treaty.kinds", laid_touchmark_treaty_kinds)] }
def TreatyAnyOrderSaid : Prop := treatyAnyOrderRow.holds Tryd.pinned (OpenSpec.ofChange treatyAnyOrderSpec)

/-- ITS FALSE NEIGHBOUR: 'it returns false'. Refute it at one input. -/
def treatyAnyOrderWrong : ChangeSpec := { name := "treatyAnyOrder", fn := fun _ => fun
  | [d1, d2, d3, d4, d5] => { results := [.lit (.bool false)], args := [d1, d2, d3, d4, d5] }
  | _ => none }
def TreatyAnyOrderWrongFalsely : Prop := treatyAnyOrderRow.holds Tryd.pinned (OpenSpec.ofChange treatyAnyOrderWrong)

/-- 'touchmarklaw07.TreatyCentral': WHATEVER THE INPUT: true; the input reads as it did. -/
def treatyCentralSpec : ChangeSpec := { name := "treatyCentral", fn := fun _ => fun
  | [d1, d2, d3, d4] => { results := [.lit (.bool true)], args := [d1, d2, d3, d4] }
  | _ => none }
def treatyCentralRow : OpenClaim := { program := "ytbmfimaomcnkfaadoor", sum := "9a36568802a4cdc8596aac44b1b39f4954ca2dfe28c35fa31b7659a4e198b403", func := "touchmark/touchmarklaw07.TreatyCentral", spec := "treatyCentral", unfollowed := true, recurses := true, named := ["touchmark/treaty.kinds", "touchmark/treaty.bound"], leaving := true, apart := false, laid := [("touchmark/treaty.bound", laid_touchmark_treaty_bound), ("touchmark/treaty.kinds", laid_touchmark_treaty_kinds)] }
def TreatyCentralSaid : Prop := treatyCentralRow.holds Tryd.pinned (OpenSpec.ofChange treatyCentralSpec)

/-- ITS FALSE NEIGHBOUR: 'it returns false'. Refute it at one input. -/
def treatyCentralWrong : ChangeSpec := { name := "treatyCentral", fn := fun _ => fun
  | [d1, d2, d3, d4] => { results := [.lit (.bool false)], args := [d1, d2, d3, d4] }
  | _ => none }
def TreatyCentralWrongFalsely : Prop := treatyCentralRow.holds Tryd.pinned (OpenSpec.ofChange treatyCentralWrong)

/-- 'touchmarklaw07.TreatyTurned': WHATEVER THE INPUT: true; the input reads as it did. -/
def treatyTurnedSpec : ChangeSpec := { name := "treatyTurned", fn := fun _ => fun
  | [d1, d2, d3, d4] => { results := [.lit (.bool true)], args := [d1, d2, d3, d4] }
  | _ => none }
def treatyTurnedRow : OpenClaim := { program := "ytbmfimaomcnkfaadoor", sum := "9a36568802a4cdc8596aac44b1b39f4954ca2dfe28c35fa31b7659a4e198b403", func := "touchmark/touchmarklaw07.TreatyTurned", spec := "treatyTurned", unfollowed := true, recurses := true, named := ["touchmark/treaty.kinds", "touchmark/treaty.bound"], leaving := true, apart := false, laid := [("touchmark/treaty.bound", laid_touchmark_treaty_bound), ("touchmark/treaty.kinds", laid_touchmark_treaty_kinds)] }
def TreatyTurnedSaid : Prop := treatyTurnedRow.holds Tryd.pinned (OpenSpec.ofChange treatyTurnedSpec)

/-- ITS FALSE NEIGHBOUR: 'it returns false'. Refute it at one input. -/
def treatyTurnedWrong : ChangeSpec := { name := "treatyTurned", fn := fun _ => fun
  | [d1, d2, d3, d4] => { results := [.lit (.bool false)], args := [d1, d2, d3, d4] }
  | _ => none }
def TreatyTurnedWrongFalsely : Prop := treatyTurnedRow.holds Tryd.pinned (OpenSpec.ofChange treatyTurnedWrong)

/-- 'touchmarklaw07.TreatyGiving': WHATEVER THE INPUT: true; the input reads as it did. -/
def treatyGivingSpec : ChangeSpec := { name := "treatyGiving", fn := fun _ => fun
  | [d1, d2, d3, d4] => { results := [.lit (.bool true)], args := [d1, d2, d3, d4] }
  | _ => none }
def treatyGivingRow : OpenClaim := { program := "ytbmfimaomcnkfaadoor", sum := "9a36568802a4cdc8596aac44b1b39f4954ca2dfe28c35fa31b7659a4e198b403", func := "touchmark/touchmarklaw07.TreatyGiving", spec := "treatyGiving", unfollowed := true, recurses := true, named := ["touchmark/treaty.kinds", "touchmark/treaty.bound"], leaving := true, apart := false, laid := [("touchmark/treaty.bound", laid_touchmark_treaty_bound), ("touchmark/treaty.kinds", laid_touchmark_treaty_kinds)] }
def TreatyGivingSaid : Prop := treatyGivingRow.holds Tryd.pinned (OpenSpec.ofChange treatyGivingSpec)

/-- ITS FALSE NEIGHBOUR: 'it returns false'. Refute it at one input. -/
def treatyGivingWrong : ChangeSpec := { name := "treatyGiving", fn := fun _ => fun
  | [d1, d2, d3, d4] => { results := [.lit (.bool false)], args := [d1, d2, d3, d4] }
  | _ => none }
def TreatyGivingWrongFalsely : Prop := treatyGivingRow.holds Tryd.pinned (OpenSpec.ofChange treatyGivingWrong)

/-- 'touchmarklaw07.TreatyTaking': WHATEVER THE INPUT: true; the input reads as it did. -/
def treatyTakingSpec : ChangeSpec := { name := "treatyTaking", fn := fun _ => fun
  | [d1, d2, d3, d4] => { results := [.lit (.bool true)], args := [d1, d2, d3, d4] }
  | _ => none }
def treatyTakingRow : OpenClaim := { program := "ytbmfimaomcnkfaadoor", sum := "9a36568802a4cdc8596aac44b1b39f4954ca2dfe28c35fa31b7659a4e198b403", func := "touchmark/touchmarklaw07.TreatyTaking", spec := "treatyTaking", unfollowed := true, recurses := true, named := ["touchmark/treaty.kinds", "touchmark/treaty.bound"], leaving := true, apart := false, laid := [("touchmark/treaty.bound", laid_touchmark_treaty_bound), ("touchmark/treaty.kinds", laid_touchmark_treaty_kinds)] }
def TreatyTakingSaid : Prop := treatyTakingRow.holds Tryd.pinned (OpenSpec.ofChange treatyTakingSpec)

/-- ITS FALSE NEIGHBOUR: 'it returns false'. Refute it at one input. -/
def treatyTakingWrong : ChangeSpec := { name := "treatyTaking", fn := fun _ => fun
  | [d1, d2, d3, d4] => { results := [.lit (.bool false)], args := [d1, d2, d3, d4] }
  | _ => none }
def TreatyTakingWrongFalsely : Prop := treatyTakingRow.holds Tryd.pinned (OpenSpec.ofChange treatyTakingWrong)

/-- 'touchmarklaw07.TreatySpanned': WHATEVER THE INPUT: true; the input reads as it did. -/
def treatySpannedSpec : ChangeSpec := { name := "treatySpanned", fn := fun _ => fun
  | [d1, d2, d3, d4] => { results := [.lit (.bool true)], args := [d1, d2, d3, d4] }
  | _ => none }
def treatySpannedRow : OpenClaim := { program := "ytbmfimaomcnkfaadoor", sum := "9a36568802a4cdc8596aac44b1b39f4954ca2dfe28c35fa31b7659a4e198b403", func := "touchmark/touchmarklaw07.TreatySpanned", spec := "treatySpanned", unfollowed := true, recurses := true, named := ["touchmark/treaty.kinds", "touchmark/treaty.bound"], leaving := true, apart := false, laid := [("touchmark/treaty.bound", laid_touchmark_treaty_bound), ("touchmark/treaty.kinds", laid_touchmark_treaty_kinds)] }
def TreatySpannedSaid : Prop := treatySpannedRow.holds Tryd.pinned (OpenSpec.ofChange treatySpannedSpec)

/-- ITS FALSE NEIGHBOUR: 'it returns false'. Refute it at one input. -/
def treatySpannedWrong : ChangeSpec := { name := "treatySpanned", fn := fun _ => fun
  | [d1, d2, d3, d4] => { results := [.lit (.bool false)], args := [d1, d2, d3, d4] }
  | _ => none }
def TreatySpannedWrongFalsely : Prop := treatySpannedRow.holds Tryd.pinned (OpenSpec.ofChange treatySpannedWrong)

/-- 'touchmarklaw07.TreatyDated': WHATEVER THE INPUT: true; the input reads as it did. -/
def treatyDatedSpec : ChangeSpec := { name := "treatyDated", fn := fun _ => fun
  | [d1, d2, d3] => { results := [.lit (.bool true)], args := [d1, d2, d3] }
  | _ => none }
def treatyDatedRow : OpenClaim := { program := "ytbmfimaomcnkfaadoor", sum := "9a36568802a4cdc8596aac44b1b39f4954ca2dfe28c35fa31b7659a4e198b403", func := "touchmark/touchmarklaw07.TreatyDated", spec := "treatyDated", unfollowed := true, recurses := true, named := ["touchmark/treaty.kinds", "touchmark/treaty.bound"], leaving := true, apart := false, laid := [("touchmark/treaty.bound", laid_touchmark_treaty_bound), ("touchmark/treaty.kinds", laid_touchmark_treaty_kinds)] }
def TreatyDatedSaid : Prop := treatyDatedRow.holds Tryd.pinned (OpenSpec.ofChange treatyDatedSpec)

/-- ITS FALSE NEIGHBOUR: 'it returns false'. Refute it at one input. -/
def treatyDatedWrong : ChangeSpec := { name := "treatyDated", fn := fun _ => fun
  | [d1, d2, d3] => { results := [.lit (.bool false)], args := [d1, d2, d3] }
  | _ => none }
def TreatyDatedWrongFalsely : Prop := treatyDatedRow.holds Tryd.pinned (OpenSpec.ofChange treatyDatedWrong)

/-- 'touchmarklaw07.TreatyLate': WHATEVER THE INPUT: true; the input reads as it did. -/
def treatyLateSpec : ChangeSpec := { name := "treatyLate", fn := fun _ => fun
  | [d1, d2, d3, d4] => { results := [.lit (.bool true)], args := [d1, d2, d3, d4] }
  | _ => none }
def treatyLateRow : OpenClaim := { program := "ytbmfimaomcnkfaadoor", sum := "9a36568802a4cdc8596aac44b1b39f4954ca2dfe28c35fa31b7659a4e198b403", func := "touchmark/touchmarklaw07.TreatyLate", spec := "treatyLate", unfollowed := true, recurses := true, named := ["touchmark/treaty.kinds", "touchmark/treaty.bound"], leaving := true, apart := false, laid := [("touchmark/treaty.bound", laid_touchmark_treaty_bound), ("touchmark/treaty.kinds", laid_touchmark_treaty_kinds)] }
def TreatyLateSaid : Prop := treatyLateRow.holds Tryd.pinned (OpenSpec.ofChange treatyLateSpec)

/-- ITS FALSE NEIGHBOUR: 'it returns false'. Refute it at one input. -/
def treatyLateWrong : ChangeSpec := { name := "treatyLate", fn := fun _ => fun
  | [d1, d2, d3, d4] => { results := [.lit (.bool false)], args := [d1, d2, d3, d4] }
  | _ => none }
def TreatyLateWrongFalsely : Prop := treatyLateRow.holds Tryd.pinned (OpenSpec.ofChange treatyLateWrong)

/-- 'touchmarklaw07.TreatyApart': WHATEVER THE INPUT: true; the input reads as it did. -/
def treatyApartSpec : ChangeSpec := { name := "treatyApart", fn := fun _ => fun
  | [d1, d2, d3, d4] => { results := [.lit (.bool true)], args := [d1, d2, d3, d4] }
  | _ => none }
def treatyApartRow : OpenClaim := { program := "ytbmfimaomcnkfaadoor", sum := "9a36568802a4cdc8596aac44b1b39f4954ca2dfe28c35fa31b7659a4e198b403", func := "touchmark/touchmarklaw07.TreatyApart", spec := "treatyApart", unfollowed := true, recurses := true, named := ["touchmark/treaty.kinds", "touchmark/treaty.bound"], leaving := true, apart := false, laid := [("touchmark/treaty.bound", laid_touchmark_treaty_bound), ("touchmark/treaty.kinds", laid_touchmark_treaty_kinds)] }
def TreatyApartSaid : Prop := treatyApartRow.holds Tryd.pinned (OpenSpec.ofChange treatyApartSpec)

/-- ITS FALSE NEIGHBOUR: 'it returns false'. Refute it at one input. -/
def treatyApartWrong : ChangeSpec := { name := "treatyApart", fn := fun _ => fun
  | [d1, d2, d3, d4] => { results := [.lit (.bool false)], args := [d1, d2, d3, d4] }
  | _ => none }
def TreatyApartWrongFalsely : Prop := treatyApartRow.holds Tryd.pinned (OpenSpec.ofChange treatyApartWrong)

/-- 'touchmarklaw07.TreatyEvents': WHATEVER THE INPUT: true; the input reads as it did. -/
def treatyEventsSpec : ChangeSpec := { name := "treatyEvents", fn := fun _ => fun
  | [d1, d2, d3, d4, d5] => { results := [.lit (.bool true)], args := [d1, d2, d3, d4, d5] }
  | _ => none }
def treatyEventsRow : OpenClaim := { program := "ytbmfimaomcnkfaadoor", sum := "9a36568802a4cdc8596aac44b1b39f4954ca2dfe28c35fa31b7659a4e198b403", func := "touchmark/touchmarklaw07.TreatyEvents", spec := "treatyEvents", unfollowed := true, recurses := true, named := ["touchmark/treaty.kinds", "touchmark/treaty.bound"], leaving := true, apart := false, laid := [("touchmark/treaty.bound", laid_touchmark_treaty_bound), ("touchmark/treaty.kinds", laid_touchmark_treaty_kinds)] }
def TreatyEventsSaid : Prop := treatyEventsRow.holds Tryd.pinned (OpenSpec.ofChange treatyEventsSpec)

/-- ITS FALSE NEIGHBOUR: 'it returns false'. Refute it at one input. -/
def treatyEventsWrong : ChangeSpec := { name := "treatyEvents", fn := fun _ => fun
  | [d1, d2, d3, d4, d5] => { results := [.lit (.bool false)], args := [d1, d2, d3, d4, d5] }
  | _ => none }
def TreatyEventsWrongFalsely : Prop := treatyEventsRow.holds Tryd.pinned (OpenSpec.ofChange treatyEventsWrong)

/-- 'touchmarklaw07.TreatyNeeded': WHATEVER THE INPUT: true; the input reads as it did. -/
def treatyNeededSpec : ChangeSpec := { name := "treatyNeeded", fn := fun _ => fun
  | [d1, d2, d3, d4, d5, d6] => { results := [.lit (.bool true)], args := [d1, d2, d3, d4, d5, d6] }
  | _ => none }
def treatyNeededRow : OpenClaim := { program := "ytbmfimaomcnkfaadoor", sum := "9a36568802a4cdc8596aac44b1b39f4954ca2dfe28c35fa31b7659a4e198b403", func := "touchmark/touchmarklaw07.TreatyNeeded", spec := "treatyNeeded", unfollowed := true, recurses := true, named := ["touchmark/treaty.kinds", "touchmark/treaty.bound"], leaving := true, apart := false, laid := [("touchmark/treaty.bound", laid_touchmark_treaty_bound), ("touchmark/treaty.kinds", laid_touchmark_treaty_kinds)] }
def TreatyNeededSaid : Prop := treatyNeededRow.holds Tryd.pinned (OpenSpec.ofChange treatyNeededSpec)

/-- ITS FALSE NEIGHBOUR: 'it returns false'. Refute it at one input. -/
def treatyNeededWrong : ChangeSpec := { name := "treatyNeeded", fn := fun _ => fun
  | [d1, d2, d3, d4, d5, d6] => { results := [.lit (.bool false)], args := [d1, d2, d3, d4, d5, d6] }
  | _ => none }
def TreatyNeededWrongFalsely : Prop := treatyNeededRow.holds Tryd.pinned (OpenSpec.ofChange treatyNeededWrong)

/- THE SECOND FORM. 'bulk': how many values and letters a reading holds, each counted each time it is reached (what is shared counts as often as it is met; a slice's spare places count too). A statement '..UptoSaid' is the law's where the arguments, and the package variables that the reading takes, are together of bulk at most 1048576: NARROWER than '..Said'. Prove '..Said' where nothing that the law and all that it calls make is longer than what came in: it says more and counts as full. Else prove '..UptoSaid'. A law counts once. -/
mutual
def uptoBulk {H : Type} : DataW H → Nat
  | .lit (.string bytes) => bytes.length + 1
  | .lit _ => 1
  | .nil => 1
  | .ptr d => uptoBulk d + 1
  | .slice elems spare => uptoBulkAll elems + uptoBulkAll spare + 1
  | .agg parts => uptoBulkAll parts + 1
  | .iface _ d => uptoBulk d + 1
  | .map entries => uptoBulkEntries entries + 1
  | .held _ => 1
def uptoBulkAll {H : Type} : List (DataW H) → Nat
  | [] => 0
  | d :: r => uptoBulk d + uptoBulkAll r
def uptoBulkEntries {H : Type} : List (Lit × DataW H) → Nat
  | [] => 0
  | x :: r => uptoBulkEntry x + uptoBulkEntries r
def uptoBulkEntry {H : Type} : Lit × DataW H → Nat
  | (.string bytes, d) => bytes.length + uptoBulk d + 1
  | (_, d) => uptoBulk d + 1
 end
def uptoSmall : (H : Type) → List (DataW H) → Bool := fun _ ds => decide (uptoBulkAll ds ≤ 1048576)
def OpenSpec.upto (s : _root_.Go.ChangeSpec) : _root_.Go.OpenSpec := { _root_.Go.OpenSpec.ofChange s with cond := some uptoSmall }

/-- 'touchmarklaw07.TreatyStates', WHERE WHAT IT READS IS OF BULK AT MOST 1048576: true; the input reads as it did. -/
def treatyStatesUptoRow : OpenClaim := { program := "ytbmfimaomcnkfaadoor", sum := "9a36568802a4cdc8596aac44b1b39f4954ca2dfe28c35fa31b7659a4e198b403", func := "touchmark/touchmarklaw07.TreatyStates", spec := "treatyStates", unfollowed := true, recurses := true, named := ["touchmark/treaty.kinds", "touchmark/treaty.bound"], leaving := true, apart := false, laid := [("touchmark/treaty.bound", laid_touchmark_treaty_bound), ("touchmark/treaty.kinds", laid_touchmark_treaty_kinds)], narrowed := true }
def TreatyStatesUptoSaid : Prop := treatyStatesUptoRow.holds Tryd.pinned (OpenSpec.upto treatyStatesSpec)

/-- 'touchmarklaw07.TreatyDates', WHERE WHAT IT READS IS OF BULK AT MOST 1048576: true; the input reads as it did. -/
def treatyDatesUptoRow : OpenClaim := { program := "ytbmfimaomcnkfaadoor", sum := "9a36568802a4cdc8596aac44b1b39f4954ca2dfe28c35fa31b7659a4e198b403", func := "touchmark/touchmarklaw07.TreatyDates", spec := "treatyDates", unfollowed := true, recurses := true, named := ["touchmark/treaty.kinds", "touchmark/treaty.bound"], leaving := true, apart := false, laid := [("touchmark/treaty.bound", laid_touchmark_treaty_bound), ("touchmark/treaty.kinds", laid_touchmark_treaty_kinds)], narrowed := true }
def TreatyDatesUptoSaid : Prop := treatyDatesUptoRow.holds Tryd.pinned (OpenSpec.upto treatyDatesSpec)

/-- 'touchmarklaw07.TreatyAnyOrder', WHERE WHAT IT READS IS OF BULK AT MOST 1048576: true; the input reads as it did. -/
def treatyAnyOrderUptoRow : OpenClaim := { program := "ytbmfimaomcnkfaadoor", sum := "9a36568802a4cdc8596aac44b1b39f4954ca2dfe28c35fa31b7659a4e198b403", func := "touchmark/touchmarklaw07.TreatyAnyOrder", spec := "treatyAnyOrder", unfollowed := true, recurses := true, named := ["touchmark/treaty.kinds", "touchmark/treaty.bound"], leaving := true, apart := false, laid := [("touchmark/treaty.bound", laid_touchmark_treaty_bound), ("touchmark/treaty.kinds", laid_touchmark_treaty_kinds)], narrowed := true }
def TreatyAnyOrderUptoSaid : Prop := treatyAnyOrderUptoRow.holds Tryd.pinned (OpenSpec.upto treatyAnyOrderSpec)

/-- 'touchmarklaw07.TreatyCentral', WHERE WHAT IT READS IS OF BULK AT MOST 1048576: true; the input reads as it did. -/
def treatyCentralUptoRow : OpenClaim := { program := "ytbmfimaomcnkfaadoor", sum := "9a36568802a4cdc8596aac44b1b39f4954ca2dfe28c35fa31b7659a4e198b403", func := "touchmark/touchmarklaw07.TreatyCentral", spec := "treatyCentral", unfollowed := true, recurses := true, named := ["touchmark/treaty.kinds", "touchmark/treaty.bound"], leaving := true, apart := false, laid := [("touchmark/treaty.bound", laid_touchmark_treaty_bound), ("touchmark/treaty.kinds", laid_touchmark_treaty_kinds)], narrowed := true }
def TreatyCentralUptoSaid : Prop := treatyCentralUptoRow.holds Tryd.pinned (OpenSpec.upto treatyCentralSpec)

/-- 'touchmarklaw07.TreatyTurned', WHERE WHAT IT READS IS OF BULK AT MOST 1048576: true; the input reads as it did. -/
def treatyTurnedUptoRow : OpenClaim := { program := "ytbmfimaomcnkfaadoor", sum := "9a36568802a4cdc8596aac44b1b39f4954ca2dfe28c35fa31b7659a4e198b403", func := "touchmark/touchmarklaw07.TreatyTurned", spec := "treatyTurned", unfollowed := true, recurses := true, named := ["touchmark/treaty.kinds", "touchmark/treaty.bound"], leaving := true, apart := false, laid := [("touchmark/treaty.bound", laid_touchmark_treaty_bound), ("touchmark/treaty.kinds", laid_touchmark_treaty_kinds)], narrowed := true }
def TreatyTurnedUptoSaid : Prop := treatyTurnedUptoRow.holds Tryd.pinned (OpenSpec.upto treatyTurnedSpec)

/-- 'touchmarklaw07.TreatyGiving', WHERE WHAT IT READS IS OF BULK AT MOST 1048576: true; the input reads as it did. -/
def treatyGivingUptoRow : OpenClaim := { program := "ytbmfimaomcnkfaadoor", sum := "9a36568802a4cdc8596aac44b1b39f4954ca2dfe28c35fa31b7659a4e198b403", func := "touchmark/touchmarklaw07.TreatyGiving", spec := "treatyGiving", unfollowed := true, recurses := true, named := ["touchmark/treaty.kinds", "touchmark/treaty.bound"], leaving := true, apart := false, laid := [("touchmark/treaty.bound", laid_touchmark_treaty_bound), ("touchmark/treaty.kinds", laid_touchmark_treaty_kinds)], narrowed := true }
def TreatyGivingUptoSaid : Prop := treatyGivingUptoRow.holds Tryd.pinned (OpenSpec.upto treatyGivingSpec)

/-- 'touchmarklaw07.TreatyTaking', WHERE WHAT IT READS IS OF BULK AT MOST 1048576: true; the input reads as it did. -/
def treatyTakingUptoRow : OpenClaim := { program := "ytbmfimaomcnkfaadoor", sum := "9a36568802a4cdc8596aac44b1b39f4954ca2dfe28c35fa31b7659a4e198b403", func := "touchmark/touchmarklaw07.TreatyTaking", spec := "treatyTaking", unfollowed := true, recurses := true, named := ["touchmark/treaty.kinds", "touchmark/treaty.bound"], leaving := true, apart := false, laid := [("touchmark/treaty.bound", laid_touchmark_treaty_bound), ("touchmark/treaty.kinds", laid_touchmark_treaty_kinds)], narrowed := true }
def TreatyTakingUptoSaid : Prop := treatyTakingUptoRow.holds Tryd.pinned (OpenSpec.upto treatyTakingSpec)

/-- 'touchmarklaw07.TreatySpanned', WHERE WHAT IT READS IS OF BULK AT MOST 1048576: true; the input reads as it did. -/
def treatySpannedUptoRow : OpenClaim := { program := "ytbmfimaomcnkfaadoor", sum := "9a36568802a4cdc8596aac44b1b39f4954ca2dfe28c35fa31b7659a4e198b403", func := "touchmark/touchmarklaw07.TreatySpanned", spec := "treatySpanned", unfollowed := true, recurses := true, named := ["touchmark/treaty.kinds", "touchmark/treaty.bound"], leaving := true, apart := false, laid := [("touchmark/treaty.bound", laid_touchmark_treaty_bound), ("touchmark/treaty.kinds", laid_touchmark_treaty_kinds)], narrowed := true }
def TreatySpannedUptoSaid : Prop := treatySpannedUptoRow.holds Tryd.pinned (OpenSpec.upto treatySpannedSpec)

/-- 'touchmarklaw07.TreatyDated', WHERE WHAT IT READS IS OF BULK AT MOST 1048576: true; the input reads as it did. -/
def treatyDatedUptoRow : OpenClaim := { program := "ytbmfimaomcnkfaadoor", sum := "9a36568802a4cdc8596aac44b1b39f4954ca2dfe28c35fa31b7659a4e198b403", func := "touchmark/touchmarklaw07.TreatyDated", spec := "treatyDated", unfollowed := true, recurses := true, named := ["touchmark/treaty.kinds", "touchmark/treaty.bound"], leaving := true, apart := false, laid := [("touchmark/treaty.bound", laid_touchmark_treaty_bound), ("touchmark/treaty.kinds", laid_touchmark_treaty_kinds)], narrowed := true }
def TreatyDatedUptoSaid : Prop := treatyDatedUptoRow.holds Tryd.pinned (OpenSpec.upto treatyDatedSpec)

/-- 'touchmarklaw07.TreatyLate', WHERE WHAT IT READS IS OF BULK AT MOST 1048576: true; the input reads as it did. -/
def treatyLateUptoRow : OpenClaim := { program := "ytbmfimaomcnkfaadoor", sum := "9a36568802a4cdc8596aac44b1b39f4954ca2dfe28c35fa31b7659a4e198b403", func := "touchmark/touchmarklaw07.TreatyLate", spec := "treatyLate", unfollowed := true, recurses := true, named := ["touchmark/treaty.kinds", "touchmark/treaty.bound"], leaving := true, apart := false, laid := [("touchmark/treaty.bound", laid_touchmark_treaty_bound), ("touchmark/treaty.kinds", laid_touchmark_treaty_kinds)], narrowed := true }
def TreatyLateUptoSaid : Prop := treatyLateUptoRow.holds Tryd.pinned (OpenSpec.upto treatyLateSpec)

/-- 'touchmarklaw07.TreatyApart', WHERE WHAT IT READS IS OF BULK AT MOST 1048576: true; the input reads as it did. -/
def treatyApartUptoRow : OpenClaim := { program := "ytbmfimaomcnkfaadoor", sum := "9a36568802a4cdc8596aac44b1b39f4954ca2dfe28c35fa31b7659a4e198b403", func := "touchmark/touchmarklaw07.TreatyApart", spec := "treatyApart", unfollowed := true, recurses := true, named := ["touchmark/treaty.kinds", "touchmark/treaty.bound"], leaving := true, apart := false, laid := [("touchmark/treaty.bound", laid_touchmark_treaty_bound), ("touchmark/treaty.kinds", laid_touchmark_treaty_kinds)], narrowed := true }
def TreatyApartUptoSaid : Prop := treatyApartUptoRow.holds Tryd.pinned (OpenSpec.upto treatyApartSpec)

/-- 'touchmarklaw07.TreatyEvents', WHERE WHAT IT READS IS OF BULK AT MOST 1048576: true; the input reads as it did. -/
def treatyEventsUptoRow : OpenClaim := { program := "ytbmfimaomcnkfaadoor", sum := "9a36568802a4cdc8596aac44b1b39f4954ca2dfe28c35fa31b7659a4e198b403", func := "touchmark/touchmarklaw07.TreatyEvents", spec := "treatyEvents", unfollowed := true, recurses := true, named := ["touchmark/treaty.kinds", "touchmark/treaty.bound"], leaving := true, apart := false, laid := [("touchmark/treaty.bound", laid_touchmark_treaty_bound), ("touchmark/treaty.kinds", laid_touchmark_treaty_kinds)], narrowed := true }
def TreatyEventsUptoSaid : Prop := treatyEventsUptoRow.holds Tryd.pinned (OpenSpec.upto treatyEventsSpec)

/-- 'touchmarklaw07.TreatyNeeded', WHERE WHAT IT READS IS OF BULK AT MOST 1048576: true; the input reads as it did. -/
def treatyNeededUptoRow : OpenClaim := { program := "ytbmfimaomcnkfaadoor", sum := "9a36568802a4cdc8596aac44b1b39f4954ca2dfe28c35fa31b7659a4e198b403", func := "touchmark/touchmarklaw07.TreatyNeeded", spec := "treatyNeeded", unfollowed := true, recurses := true, named := ["touchmark/treaty.kinds", "touchmark/treaty.bound"], leaving := true, apart := false, laid := [("touchmark/treaty.bound", laid_touchmark_treaty_bound), ("touchmark/treaty.kinds", laid_touchmark_treaty_kinds)], narrowed := true }
def TreatyNeededUptoSaid : Prop := treatyNeededUptoRow.holds Tryd.pinned (OpenSpec.upto treatyNeededSpec)

end Rows
end Go.Proofs.YtbmfimaomcnkfaaDoor

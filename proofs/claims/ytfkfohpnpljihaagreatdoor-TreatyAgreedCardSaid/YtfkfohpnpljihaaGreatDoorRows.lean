/-
  NARROWER THAN 'FOR EVERY INPUT', by the rows' own cells (each row's printed sentence says how): UseKin: laid · UseAgreed: laid · TreatyAgreed: laid.
  DERIVED. THE GIVEN ROWS OF THIS SEAT. 3 by the template 'for every input the law returns true; each argument reads behind the call as it read before'; 0 by the template 'total and deterministic' (their statements: YtfkfohpnpljihaaGreatDoorTotals.lean).
  GIVEN WITH THE SEED: the statements are not yours to turn. If you find one false, say at which input.
  Laid BY PROGRAM, IN A SANDBOX (cutbox-rows.mjs): the forced cells as the released guide's own fill.sh prints them over the translation 86f2a9f898764611… (all of the seat's roots in one cut). By AI agents, Wed Nov 11 2026. No macro, syntax, notation, axiom, sorry.
-/
import Derived.Test.YtfkfohpnpljihaaGreatDoorChecked
import GoSem.Claim
import GoSem.ClaimJoined
import GoSem.ClaimMapViews
import Derived.JoinedTies
import Derived.KernelRfl
namespace Go.Proofs.YtfkfohpnpljihaaGreatDoor
/- THE CELL 'sum', in the pinned program and in every row, IS THE sha256 OF THE DUMP (.gsa) THAT YtfkfohpnpljihaaGreatDoorProg.lean LOADS. Nothing in Lean hashes anything: it is a label: what it is worth is what the hold of that sum in a sandbox is worth. -/
noncomputable def Tryz.pinned : Pinned := { name := "ytfkfohpnpljihaagreatdoor", sum := "86f2a9f89876461122cbf4700948f63945fee48fc70c1a9c6da5e1d056d789ae", checked := Tryz.checked }
namespace Rows
def none {H : Type} : Left H := { results := [], args := [] }

/- WHAT THE LISTED PACKAGE-LEVEL VARIABLES READ AS WHEN THE CALL BEGINS. Each datum BY PROGRAM (the guide's laid-datum.mjs) off the statement by which the dump's own 'gosem.cut.vars' lays the variable. In a bare row this is a premise. The card (YtfkfohpnpljihaaGreatDoorCards.lean) ties it to the program's text. -/
def laid_touchmark_use_parts {H : Type} : DataW H := .iface "func table" (.agg [.iface "func" (.lit (.string [40, 116, 111, 117, 99, 104, 109, 97, 114, 107, 47, 117, 115, 101, 46, 102, 105, 108, 101, 41, 46, 110, 117, 109, 98, 101, 114, 115])), .iface "func" (.lit (.string [40, 116, 111, 117, 99, 104, 109, 97, 114, 107, 47, 117, 115, 101, 46, 102, 105, 108, 101, 41, 46, 101, 120, 99, 117, 115, 101, 115])), .iface "func" (.lit (.string [40, 116, 111, 117, 99, 104, 109, 97, 114, 107, 47, 117, 115, 101, 46, 102, 105, 108, 101, 41, 46, 112, 97, 112, 101, 114, 115])), .iface "func" (.lit (.string [40, 116, 111, 117, 99, 104, 109, 97, 114, 107, 47, 117, 115, 101, 46, 102, 105, 108, 101, 41, 46, 114, 101, 113, 117, 101, 115, 116, 115]))])
def laid_touchmark_treaty_bound {H : Type} : DataW H := .agg [.lit (.bool true), .lit (.bool false)]
def laid_touchmark_treaty_kinds {H : Type} : DataW H := .iface "func table" (.agg [.agg [.lit (.string [97, 115, 107]), .agg [.lit (.bool true), .lit (.bool false)], .iface "func" (.lit (.string [116, 111, 117, 99, 104, 109, 97, 114, 107, 47, 116, 114, 101, 97, 116, 121, 46, 121, 101, 115]))], .agg [.lit (.string [114, 101, 102, 117, 115, 101]), .agg [.lit (.bool true), .lit (.bool false)], .iface "func" (.lit (.string [116, 111, 117, 99, 104, 109, 97, 114, 107, 47, 116, 114, 101, 97, 116, 121, 46, 110, 111]))], .agg [.lit (.string [108, 105, 102, 116]), .agg [.lit (.bool true), .lit (.bool false)], .iface "func" (.lit (.string [116, 111, 117, 99, 104, 109, 97, 114, 107, 47, 116, 114, 101, 97, 116, 121, 46, 121, 101, 115]))], .agg [.lit (.string [108, 105, 109, 105, 116]), .agg [.lit (.bool true), .lit (.bool false)], .iface "func" (.lit (.string [116, 111, 117, 99, 104, 109, 97, 114, 107, 47, 116, 114, 101, 97, 116, 121, 46, 110, 111]))], .agg [.lit (.string [102, 97, 108, 108]), .agg [.lit (.bool false), .lit (.bool true)], .iface "func" (.lit (.string [116, 111, 117, 99, 104, 109, 97, 114, 107, 47, 116, 114, 101, 97, 116, 121, 46, 110, 111]))], .agg [.lit (.string [116, 117, 114, 110]), .agg [.lit (.bool true), .lit (.bool false)], .iface "func" (.lit (.string [116, 111, 117, 99, 104, 109, 97, 114, 107, 47, 116, 114, 101, 97, 116, 121, 46, 121, 101, 115]))], .agg [.lit (.string [111, 108, 100]), .agg [.lit (.bool true), .lit (.bool true)], .iface "func" (.lit (.string [116, 111, 117, 99, 104, 109, 97, 114, 107, 47, 116, 114, 101, 97, 116, 121, 46, 110, 111]))]])

/-- 'touchmarklaw05.UseKin': WHATEVER THE INPUT: true; the input reads as it did. -/
def useKinSpec : ChangeSpec := { name := "useKin", fn := fun _ => fun
  | [d1, d2, d3, d4, d5, d6, d7, d8, d9] => { results := [.lit (.bool true)], args := [d1, d2, d3, d4, d5, d6, d7, d8, d9] }
  | _ => none }
def useKinRow : OpenClaim := { program := "ytfkfohpnpljihaagreatdoor", sum := "86f2a9f89876461122cbf4700948f63945fee48fc70c1a9c6da5e1d056d789ae", func := "touchmark/touchmarklaw05.UseKin", spec := "useKin", inPlace := ["(*sync.WaitGroup).Add", "internal/race.ReleaseMerge", "internal/race.Disable", "internal/race.Enable", "internal/synctest.IsInBubble", "internal/synctest.Associate[sync.WaitGroup]", "sync.fatal", "sync/atomic.OrUint64", "sync/atomic.AddUint64", "internal/race.Read", "sync/atomic.LoadUint64", "sync/atomic.StoreUint64", "internal/synctest.Disassociate[sync.WaitGroup]", "sync.runtime_Semrelease", "(*sync.WaitGroup).Done", "(*sync.WaitGroup).Wait", "internal/race.Acquire", "internal/synctest.IsAssociated[sync.WaitGroup]", "sync/atomic.CompareAndSwapUint64", "internal/race.Write", "sync.runtime_SemacquireWaitGroup"], unfollowed := true, recurses := true, named := ["touchmark/use.parts"], plainKeys := false, leaving := true, apart := false, laid := [("touchmark/use.parts", laid_touchmark_use_parts)] }
def UseKinSaid : Prop := useKinRow.holds Tryz.pinned (OpenSpec.ofChange useKinSpec)

/-- ITS FALSE NEIGHBOUR: 'it returns false'. Refute it at one input. -/
def useKinWrong : ChangeSpec := { name := "useKin", fn := fun _ => fun
  | [d1, d2, d3, d4, d5, d6, d7, d8, d9] => { results := [.lit (.bool false)], args := [d1, d2, d3, d4, d5, d6, d7, d8, d9] }
  | _ => none }
def UseKinWrongFalsely : Prop := useKinRow.holds Tryz.pinned (OpenSpec.ofChange useKinWrong)

/-- 'touchmarklaw05.UseAgreed': WHATEVER THE INPUT: true; the input reads as it did. -/
def useAgreedSpec : ChangeSpec := { name := "useAgreed", fn := fun _ => fun
  | [d1, d2, d3, d4, d5, d6, d7, d8, d9] => { results := [.lit (.bool true)], args := [d1, d2, d3, d4, d5, d6, d7, d8, d9] }
  | _ => none }
def useAgreedRow : OpenClaim := { program := "ytfkfohpnpljihaagreatdoor", sum := "86f2a9f89876461122cbf4700948f63945fee48fc70c1a9c6da5e1d056d789ae", func := "touchmark/touchmarklaw05.UseAgreed", spec := "useAgreed", unfollowed := true, recurses := true, named := ["touchmark/use.parts"], plainKeys := false, leaving := true, apart := false, laid := [("touchmark/use.parts", laid_touchmark_use_parts)] }
def UseAgreedSaid : Prop := useAgreedRow.holds Tryz.pinned (OpenSpec.ofChange useAgreedSpec)

/-- ITS FALSE NEIGHBOUR: 'it returns false'. Refute it at one input. -/
def useAgreedWrong : ChangeSpec := { name := "useAgreed", fn := fun _ => fun
  | [d1, d2, d3, d4, d5, d6, d7, d8, d9] => { results := [.lit (.bool false)], args := [d1, d2, d3, d4, d5, d6, d7, d8, d9] }
  | _ => none }
def UseAgreedWrongFalsely : Prop := useAgreedRow.holds Tryz.pinned (OpenSpec.ofChange useAgreedWrong)

/-- 'touchmarklaw07.TreatyAgreed': WHATEVER THE INPUT: true; the input reads as it did. -/
def treatyAgreedSpec : ChangeSpec := { name := "treatyAgreed", fn := fun _ => fun
  | [d1, d2, d3, d4, d5, d6, d7, d8] => { results := [.lit (.bool true)], args := [d1, d2, d3, d4, d5, d6, d7, d8] }
  | _ => none }
def treatyAgreedRow : OpenClaim := { program := "ytfkfohpnpljihaagreatdoor", sum := "86f2a9f89876461122cbf4700948f63945fee48fc70c1a9c6da5e1d056d789ae", func := "touchmark/touchmarklaw07.TreatyAgreed", spec := "treatyAgreed", inPlace := ["(*sync.WaitGroup).Add", "internal/race.ReleaseMerge", "internal/race.Disable", "internal/race.Enable", "internal/synctest.IsInBubble", "internal/synctest.Associate[sync.WaitGroup]", "sync.fatal", "sync/atomic.OrUint64", "sync/atomic.AddUint64", "internal/race.Read", "sync/atomic.LoadUint64", "sync/atomic.StoreUint64", "internal/synctest.Disassociate[sync.WaitGroup]", "sync.runtime_Semrelease", "(*sync.WaitGroup).Done", "(*sync.WaitGroup).Wait", "internal/race.Acquire", "internal/synctest.IsAssociated[sync.WaitGroup]", "sync/atomic.CompareAndSwapUint64", "internal/race.Write", "sync.runtime_SemacquireWaitGroup"], unfollowed := true, recurses := true, named := ["touchmark/treaty.kinds", "touchmark/treaty.bound"], plainKeys := false, leaving := true, apart := false, laid := [("touchmark/treaty.bound", laid_touchmark_treaty_bound), ("touchmark/treaty.kinds", laid_touchmark_treaty_kinds)] }
def TreatyAgreedSaid : Prop := treatyAgreedRow.holds Tryz.pinned (OpenSpec.ofChange treatyAgreedSpec)

/-- ITS FALSE NEIGHBOUR: 'it returns false'. Refute it at one input. -/
def treatyAgreedWrong : ChangeSpec := { name := "treatyAgreed", fn := fun _ => fun
  | [d1, d2, d3, d4, d5, d6, d7, d8] => { results := [.lit (.bool false)], args := [d1, d2, d3, d4, d5, d6, d7, d8] }
  | _ => none }
def TreatyAgreedWrongFalsely : Prop := treatyAgreedRow.holds Tryz.pinned (OpenSpec.ofChange treatyAgreedWrong)

/- THE SECOND FORM. 'bulk': how many values and letters a reading holds, each counted each time it is reached (what is shared counts as often as it is met; a slice's spare places count too). A statement '..UptoSaid' is the law's where the arguments, and the package variables that the reading takes, are together of bulk at most 1048576: NARROWER than '..Said'. Prove '..Said' where nothing that the law and all that it calls make is longer than what came in: it says more and counts as full. Else prove '..UptoSaid'. A law counts once. -/
mutual
def uptoBulk {H : Type} : DataW H → Nat
  | .lit (.string bytes) => bytes.length + 1
  | .lit _ => 1
  | .nil => 1
  | .ptr d => uptoBulk d + 1
  | .slice elems spare => uptoBulkAll elems + uptoBulkAll spare + 1
  | .agg parts => uptoBulkAll parts + 1
  | .iface _ d => uptoBulk d + 1
  | .map entries => uptoBulkEntries entries + 1
  | .held _ => 1
def uptoBulkAll {H : Type} : List (DataW H) → Nat
  | [] => 0
  | d :: r => uptoBulk d + uptoBulkAll r
def uptoBulkEntries {H : Type} : List (Lit × DataW H) → Nat
  | [] => 0
  | x :: r => uptoBulkEntry x + uptoBulkEntries r
def uptoBulkEntry {H : Type} : Lit × DataW H → Nat
  | (.string bytes, d) => bytes.length + uptoBulk d + 1
  | (_, d) => uptoBulk d + 1
 end
def uptoSmall : (H : Type) → List (DataW H) → Bool := fun _ ds => decide (uptoBulkAll ds ≤ 1048576)
def OpenSpec.upto (s : _root_.Go.ChangeSpec) : _root_.Go.OpenSpec := { _root_.Go.OpenSpec.ofChange s with cond := some uptoSmall }

/-- 'touchmarklaw05.UseKin', WHERE WHAT IT READS IS OF BULK AT MOST 1048576: true; the input reads as it did. -/
def useKinUptoRow : OpenClaim := { program := "ytfkfohpnpljihaagreatdoor", sum := "86f2a9f89876461122cbf4700948f63945fee48fc70c1a9c6da5e1d056d789ae", func := "touchmark/touchmarklaw05.UseKin", spec := "useKin", inPlace := ["(*sync.WaitGroup).Add", "internal/race.ReleaseMerge", "internal/race.Disable", "internal/race.Enable", "internal/synctest.IsInBubble", "internal/synctest.Associate[sync.WaitGroup]", "sync.fatal", "sync/atomic.OrUint64", "sync/atomic.AddUint64", "internal/race.Read", "sync/atomic.LoadUint64", "sync/atomic.StoreUint64", "internal/synctest.Disassociate[sync.WaitGroup]", "sync.runtime_Semrelease", "(*sync.WaitGroup).Done", "(*sync.WaitGroup).Wait", "internal/race.Acquire", "internal/synctest.IsAssociated[sync.WaitGroup]", "sync/atomic.CompareAndSwapUint64", "internal/race.Write", "sync.runtime_SemacquireWaitGroup"], unfollowed := true, recurses := true, named := ["touchmark/use.parts"], plainKeys := false, leaving := true, apart := false, laid := [("touchmark/use.parts", laid_touchmark_use_parts)], narrowed := true }
def UseKinUptoSaid : Prop := useKinUptoRow.holds Tryz.pinned (OpenSpec.upto useKinSpec)

/-- 'touchmarklaw05.UseAgreed', WHERE WHAT IT READS IS OF BULK AT MOST 1048576: true; the input reads as it did. -/
def useAgreedUptoRow : OpenClaim := { program := "ytfkfohpnpljihaagreatdoor", sum := "86f2a9f89876461122cbf4700948f63945fee48fc70c1a9c6da5e1d056d789ae", func := "touchmark/touchmarklaw05.UseAgreed", spec := "useAgreed", unfollowed := true, recurses := true, named := ["touchmark/use.parts"], plainKeys := false, leaving := true, apart := false, laid := [("touchmark/use.parts", laid_touchmark_use_parts)], narrowed := true }
def UseAgreedUptoSaid : Prop := useAgreedUptoRow.holds Tryz.pinned (OpenSpec.upto useAgreedSpec)

/-- 'touchmarklaw07.TreatyAgreed', WHERE WHAT IT READS IS OF BULK AT MOST 1048576: true; the input reads as it did. -/
def treatyAgreedUptoRow : OpenClaim := { program := "ytfkfohpnpljihaagreatdoor", sum := "86f2a9f89876461122cbf4700948f63945fee48fc70c1a9c6da5e1d056d789ae", func := "touchmark/touchmarklaw07.TreatyAgreed", spec := "treatyAgreed", inPlace := ["(*sync.WaitGroup).Add", "internal/race.ReleaseMerge", "internal/race.Disable", "internal/race.Enable", "internal/synctest.IsInBubble", "internal/synctest.Associate[sync.WaitGroup]", "sync.fatal", "sync/atomic.OrUint64", "sync/atomic.AddUint64", "internal/race.Read", "sync/atomic.LoadUint64", "sync/atomic.StoreUint64", "internal/synctest.Disassociate[sync.WaitGroup]", "sync.runtime_Semrelease", "(*sync.WaitGroup).Done", "(*sync.WaitGroup).Wait", "internal/race.Acquire", "internal/synctest.IsAssociated[sync.WaitGroup]", "sync/atomic.CompareAndSwapUint64", "internal/race.Write", "sync.runtime_SemacquireWaitGroup"], unfollowed := true, recurses := true, named := ["touchmark/treaty.kinds", "touchmark/treaty.bound"], plainKeys := false, leaving := true, apart := false, laid := [("touchmark/treaty.bound", laid_touchmark_treaty_bound), ("touchmark/treaty.kinds", laid_touchmark_treaty_kinds)], narrowed := true }
def TreatyAgreedUptoSaid : Prop := treatyAgreedUptoRow.holds Tryz.pinned (OpenSpec.upto treatyAgreedSpec)

end Rows
end Go.Proofs.YtfkfohpnpljihaaGreatDoor

/-
  NARROWER THAN 'FOR EVERY INPUT', by the rows' own cells (each row's printed sentence says how): UseWindows: laid · UseLefts: laid · UseKeeps: laid · UseTrue: laid · UseMore: laid · UseParts: laid · UseTerms: laid.
  DERIVED. THE GIVEN ROWS OF THIS SEAT. 7 by the template 'for every input the law returns true; each argument reads behind the call as it read before'; 0 by the template 'total and deterministic' (their statements: YtopkdkedjkidhaaDoorTotals.lean).
  GIVEN WITH THE SEED: the statements are not yours to turn. If you find one false, say at which input.
  Laid BY PROGRAM, IN A SANDBOX (cutbox-rows.mjs): the forced cells as the released guide's own fill.sh prints them over the translation de793d2ee226d7c2… (all of the seat's roots in one cut). By AI agents, Wed Nov 11 2026. No macro, syntax, notation, axiom, sorry.
-/
import Derived.Test.YtopkdkedjkidhaaDoorChecked
import GoSem.Claim
import GoSem.ClaimJoined
import GoSem.ClaimMapViews
import Derived.JoinedTies
import Derived.KernelRfl
namespace Go.Proofs.YtopkdkedjkidhaaDoor
/- THE CELL 'sum', in the pinned program and in every row, IS THE sha256 OF THE DUMP (.gsa) THAT YtopkdkedjkidhaaDoorProg.lean LOADS. Nothing in Lean hashes anything: it is a label: what it is worth is what the hold of that sum in a sandbox is worth. -/
noncomputable def Tryd.pinned : Pinned := { name := "ytopkdkedjkidhaadoor", sum := "de793d2ee226d7c2345c7d629c712b1b06e405e9213960cc7edf842da1ca036e", checked := Tryd.checked }
namespace Rows
def none {H : Type} : Left H := { results := [], args := [] }

/- WHAT THE LISTED PACKAGE-LEVEL VARIABLES READ AS WHEN THE CALL BEGINS. Each datum BY PROGRAM (the guide's laid-datum.mjs) off the statement by which the dump's own 'gosem.cut.vars' lays the variable. In a bare row this is a premise. The card (YtopkdkedjkidhaaDoorCards.lean) ties it to the program's text. -/
def laid_touchmark_use_parts {H : Type} : DataW H := .iface "func table" (.agg [.iface "func" (.lit (.string [40, 116, 111, 117, 99, 104, 109, 97, 114, 107, 47, 117, 115, 101, 46, 102, 105, 108, 101, 41, 46, 110, 117, 109, 98, 101, 114, 115])), .iface "func" (.lit (.string [40, 116, 111, 117, 99, 104, 109, 97, 114, 107, 47, 117, 115, 101, 46, 102, 105, 108, 101, 41, 46, 101, 120, 99, 117, 115, 101, 115])), .iface "func" (.lit (.string [40, 116, 111, 117, 99, 104, 109, 97, 114, 107, 47, 117, 115, 101, 46, 102, 105, 108, 101, 41, 46, 112, 97, 112, 101, 114, 115])), .iface "func" (.lit (.string [40, 116, 111, 117, 99, 104, 109, 97, 114, 107, 47, 117, 115, 101, 46, 102, 105, 108, 101, 41, 46, 114, 101, 113, 117, 101, 115, 116, 115]))])
def laid_touchmark_dates_lengths {H : Type} : DataW H := .agg [.lit (.int .i64 31), .lit (.int .i64 28), .lit (.int .i64 31), .lit (.int .i64 30), .lit (.int .i64 31), .lit (.int .i64 30), .lit (.int .i64 31), .lit (.int .i64 31), .lit (.int .i64 30), .lit (.int .i64 31), .lit (.int .i64 30), .lit (.int .i64 31)]

/-- 'touchmarklaw05.UseWindows': WHATEVER THE INPUT: true; the input reads as it did. -/
def useWindowsSpec : ChangeSpec := { name := "useWindows", fn := fun _ => fun
  | [d1, d2, d3, d4] => { results := [.lit (.bool true)], args := [d1, d2, d3, d4] }
  | _ => none }
def useWindowsRow : OpenClaim := { program := "ytopkdkedjkidhaadoor", sum := "de793d2ee226d7c2345c7d629c712b1b06e405e9213960cc7edf842da1ca036e", func := "touchmark/touchmarklaw05.UseWindows", spec := "useWindows", unfollowed := true, recurses := true, named := ["touchmark/use.parts"], plainKeys := false, leaving := true, apart := false, laid := [("touchmark/use.parts", laid_touchmark_use_parts)] }
def UseWindowsSaid : Prop := useWindowsRow.holds Tryd.pinned (OpenSpec.ofChange useWindowsSpec)

/-- ITS FALSE NEIGHBOUR: 'it returns false'. Refute it at one input. -/
def useWindowsWrong : ChangeSpec := { name := "useWindows", fn := fun _ => fun
  | [d1, d2, d3, d4] => { results := [.lit (.bool false)], args := [d1, d2, d3, d4] }
  | _ => none }
def UseWindowsWrongFalsely : Prop := useWindowsRow.holds Tryd.pinned (OpenSpec.ofChange useWindowsWrong)

/-- 'touchmarklaw05.UseLefts': WHATEVER THE INPUT: true; the input reads as it did. -/
def useLeftsSpec : ChangeSpec := { name := "useLefts", fn := fun _ => fun
  | [d1, d2, d3] => { results := [.lit (.bool true)], args := [d1, d2, d3] }
  | _ => none }
def useLeftsRow : OpenClaim := { program := "ytopkdkedjkidhaadoor", sum := "de793d2ee226d7c2345c7d629c712b1b06e405e9213960cc7edf842da1ca036e", func := "touchmark/touchmarklaw05.UseLefts", spec := "useLefts", unfollowed := true, recurses := true, named := ["touchmark/use.parts"], plainKeys := false, leaving := true, apart := false, laid := [("touchmark/use.parts", laid_touchmark_use_parts)] }
def UseLeftsSaid : Prop := useLeftsRow.holds Tryd.pinned (OpenSpec.ofChange useLeftsSpec)

/-- ITS FALSE NEIGHBOUR: 'it returns false'. Refute it at one input. -/
def useLeftsWrong : ChangeSpec := { name := "useLefts", fn := fun _ => fun
  | [d1, d2, d3] => { results := [.lit (.bool false)], args := [d1, d2, d3] }
  | _ => none }
def UseLeftsWrongFalsely : Prop := useLeftsRow.holds Tryd.pinned (OpenSpec.ofChange useLeftsWrong)

/-- 'touchmarklaw05.UseKeeps': WHATEVER THE INPUT: true; the input reads as it did. -/
def useKeepsSpec : ChangeSpec := { name := "useKeeps", fn := fun _ => fun
  | [d1, d2, d3, d4] => { results := [.lit (.bool true)], args := [d1, d2, d3, d4] }
  | _ => none }
def useKeepsRow : OpenClaim := { program := "ytopkdkedjkidhaadoor", sum := "de793d2ee226d7c2345c7d629c712b1b06e405e9213960cc7edf842da1ca036e", func := "touchmark/touchmarklaw05.UseKeeps", spec := "useKeeps", unfollowed := true, recurses := true, named := ["touchmark/use.parts"], plainKeys := false, leaving := true, apart := false, laid := [("touchmark/use.parts", laid_touchmark_use_parts)] }
def UseKeepsSaid : Prop := useKeepsRow.holds Tryd.pinned (OpenSpec.ofChange useKeepsSpec)

/-- ITS FALSE NEIGHBOUR: 'it returns false'. Refute it at one input. -/
def useKeepsWrong : ChangeSpec := { name := "useKeeps", fn := fun _ => fun
  | [d1, d2, d3, d4] => { results := [.lit (.bool false)], args := [d1, d2, d3, d4] }
  | _ => none }
def UseKeepsWrongFalsely : Prop := useKeepsRow.holds Tryd.pinned (OpenSpec.ofChange useKeepsWrong)

/-- 'touchmarklaw05.UseTrue': WHATEVER THE INPUT: true; the input reads as it did. -/
def useTrueSpec : ChangeSpec := { name := "useTrue", fn := fun _ => fun
  | [d1, d2, d3, d4] => { results := [.lit (.bool true)], args := [d1, d2, d3, d4] }
  | _ => none }
def useTrueRow : OpenClaim := { program := "ytopkdkedjkidhaadoor", sum := "de793d2ee226d7c2345c7d629c712b1b06e405e9213960cc7edf842da1ca036e", func := "touchmark/touchmarklaw05.UseTrue", spec := "useTrue", unfollowed := true, recurses := true, named := ["touchmark/use.parts"], plainKeys := false, leaving := true, apart := false, laid := [("touchmark/use.parts", laid_touchmark_use_parts)] }
def UseTrueSaid : Prop := useTrueRow.holds Tryd.pinned (OpenSpec.ofChange useTrueSpec)

/-- ITS FALSE NEIGHBOUR: 'it returns false'. Refute it at one input. -/
def useTrueWrong : ChangeSpec := { name := "useTrue", fn := fun _ => fun
  | [d1, d2, d3, d4] => { results := [.lit (.bool false)], args := [d1, d2, d3, d4] }
  | _ => none }
def UseTrueWrongFalsely : Prop := useTrueRow.holds Tryd.pinned (OpenSpec.ofChange useTrueWrong)

/-- 'touchmarklaw05.UseMore': WHATEVER THE INPUT: true; the input reads as it did. -/
def useMoreSpec : ChangeSpec := { name := "useMore", fn := fun _ => fun
  | [d1, d2, d3, d4, d5] => { results := [.lit (.bool true)], args := [d1, d2, d3, d4, d5] }
  | _ => none }
def useMoreRow : OpenClaim := { program := "ytopkdkedjkidhaadoor", sum := "de793d2ee226d7c2345c7d629c712b1b06e405e9213960cc7edf842da1ca036e", func := "touchmark/touchmarklaw05.UseMore", spec := "useMore", unfollowed := true, recurses := true, named := ["touchmark/use.parts"], plainKeys := false, leaving := true, apart := false, laid := [("touchmark/use.parts", laid_touchmark_use_parts)] }
def UseMoreSaid : Prop := useMoreRow.holds Tryd.pinned (OpenSpec.ofChange useMoreSpec)

/-- ITS FALSE NEIGHBOUR: 'it returns false'. Refute it at one input. -/
def useMoreWrong : ChangeSpec := { name := "useMore", fn := fun _ => fun
  | [d1, d2, d3, d4, d5] => { results := [.lit (.bool false)], args := [d1, d2, d3, d4, d5] }
  | _ => none }
def UseMoreWrongFalsely : Prop := useMoreRow.holds Tryd.pinned (OpenSpec.ofChange useMoreWrong)

/-- 'touchmarklaw05.UseParts': WHATEVER THE INPUT: true; the input reads as it did. -/
def usePartsSpec : ChangeSpec := { name := "useParts", fn := fun _ => fun
  | [d1, d2, d3, d4] => { results := [.lit (.bool true)], args := [d1, d2, d3, d4] }
  | _ => none }
def usePartsRow : OpenClaim := { program := "ytopkdkedjkidhaadoor", sum := "de793d2ee226d7c2345c7d629c712b1b06e405e9213960cc7edf842da1ca036e", func := "touchmark/touchmarklaw05.UseParts", spec := "useParts", unfollowed := true, recurses := true, named := ["touchmark/use.parts"], plainKeys := false, leaving := true, apart := false, laid := [("touchmark/use.parts", laid_touchmark_use_parts)] }
def UsePartsSaid : Prop := usePartsRow.holds Tryd.pinned (OpenSpec.ofChange usePartsSpec)

/-- ITS FALSE NEIGHBOUR: 'it returns false'. Refute it at one input. -/
def usePartsWrong : ChangeSpec := { name := "useParts", fn := fun _ => fun
  | [d1, d2, d3, d4] => { results := [.lit (.bool false)], args := [d1, d2, d3, d4] }
  | _ => none }
def UsePartsWrongFalsely : Prop := usePartsRow.holds Tryd.pinned (OpenSpec.ofChange usePartsWrong)

/-- 'touchmarklaw05.UseTerms': WHATEVER THE INPUT: true; the input reads as it did. -/
def useTermsSpec : ChangeSpec := { name := "useTerms", fn := fun _ => fun
  | [d1, d2, d3, d4, d5, d6, d7, d8, d9, d10] => { results := [.lit (.bool true)], args := [d1, d2, d3, d4, d5, d6, d7, d8, d9, d10] }
  | _ => none }
def useTermsRow : OpenClaim := { program := "ytopkdkedjkidhaadoor", sum := "de793d2ee226d7c2345c7d629c712b1b06e405e9213960cc7edf842da1ca036e", func := "touchmark/touchmarklaw05.UseTerms", spec := "useTerms", unfollowed := true, recurses := true, named := ["touchmark/use.parts", "touchmark/dates.lengths"], plainKeys := false, leaving := true, apart := false, laid := [("touchmark/dates.lengths", laid_touchmark_dates_lengths), ("touchmark/use.parts", laid_touchmark_use_parts)] }
def UseTermsSaid : Prop := useTermsRow.holds Tryd.pinned (OpenSpec.ofChange useTermsSpec)

/-- ITS FALSE NEIGHBOUR: 'it returns false'. Refute it at one input. -/
def useTermsWrong : ChangeSpec := { name := "useTerms", fn := fun _ => fun
  | [d1, d2, d3, d4, d5, d6, d7, d8, d9, d10] => { results := [.lit (.bool false)], args := [d1, d2, d3, d4, d5, d6, d7, d8, d9, d10] }
  | _ => none }
def UseTermsWrongFalsely : Prop := useTermsRow.holds Tryd.pinned (OpenSpec.ofChange useTermsWrong)

/- THE SECOND FORM. 'bulk': how many values and letters a reading holds, each counted each time it is reached (what is shared counts as often as it is met; a slice's spare places count too). A statement '..UptoSaid' is the law's where the arguments, and the package variables that the reading takes, are together of bulk at most 1048576: NARROWER than '..Said'. Prove '..Said' where nothing that the law and all that it calls make is longer than what came in: it says more and counts as full. Else prove '..UptoSaid'. A law counts once. -/
mutual
def uptoBulk {H : Type} : DataW H → Nat
  | .lit (.string bytes) => bytes.length + 1
  | .lit _ => 1
  | .nil => 1
  | .ptr d => uptoBulk d + 1
  | .slice elems spare => uptoBulkAll elems + uptoBulkAll spare + 1
  | .agg parts => uptoBulkAll parts + 1
  | .iface _ d => uptoBulk d + 1
  | .map entries => uptoBulkEntries entries + 1
  | .held _ => 1
def uptoBulkAll {H : Type} : List (DataW H) → Nat
  | [] => 0
  | d :: r => uptoBulk d + uptoBulkAll r
def uptoBulkEntries {H : Type} : List (Lit × DataW H) → Nat
  | [] => 0
  | x :: r => uptoBulkEntry x + uptoBulkEntries r
def uptoBulkEntry {H : Type} : Lit × DataW H → Nat
  | (.string bytes, d) => bytes.length + uptoBulk d + 1
  | (_, d) => uptoBulk d + 1
 end
def uptoSmall : (H : Type) → List (DataW H) → Bool := fun _ ds => decide (uptoBulkAll ds ≤ 1048576)
def OpenSpec.upto (s : _root_.Go.ChangeSpec) : _root_.Go.OpenSpec := { _root_.Go.OpenSpec.ofChange s with cond := some uptoSmall }

/-- 'touchmarklaw05.UseWindows', WHERE WHAT IT READS IS OF BULK AT MOST 1048576: true; the input reads as it did. -/
def useWindowsUptoRow : OpenClaim := { program := "ytopkdkedjkidhaadoor", sum := "de793d2ee226d7c2345c7d629c712b1b06e405e9213960cc7edf842da1ca036e", func := "touchmark/touchmarklaw05.UseWindows", spec := "useWindows", unfollowed := true, recurses := true, named := ["touchmark/use.parts"], plainKeys := false, leaving := true, apart := false, laid := [("touchmark/use.parts", laid_touchmark_use_parts)], narrowed := true }
def UseWindowsUptoSaid : Prop := useWindowsUptoRow.holds Tryd.pinned (OpenSpec.upto useWindowsSpec)

/-- 'touchmarklaw05.UseLefts', WHERE WHAT IT READS IS OF BULK AT MOST 1048576: true; the input reads as it did. -/
def useLeftsUptoRow : OpenClaim := { program := "ytopkdkedjkidhaadoor", sum := "de793d2ee226d7c2345c7d629c712b1b06e405e9213960cc7edf842da1ca036e", func := "touchmark/touchmarklaw05.UseLefts", spec := "useLefts", unfollowed := true, recurses := true, named := ["touchmark/use.parts"], plainKeys := false, leaving := true, apart := false, laid := [("touchmark/use.parts", laid_touchmark_use_parts)], narrowed := true }
def UseLeftsUptoSaid : Prop := useLeftsUptoRow.holds Tryd.pinned (OpenSpec.upto useLeftsSpec)

/-- 'touchmarklaw05.UseKeeps', WHERE WHAT IT READS IS OF BULK AT MOST 1048576: true; the input reads as it did. -/
def useKeepsUptoRow : OpenClaim := { program := "ytopkdkedjkidhaadoor", sum := "de793d2ee226d7c2345c7d629c712b1b06e405e9213960cc7edf842da1ca036e", func := "touchmark/touchmarklaw05.UseKeeps", spec := "useKeeps", unfollowed := true, recurses := true, named := ["touchmark/use.parts"], plainKeys := false, leaving := true, apart := false, laid := [("touchmark/use.parts", laid_touchmark_use_parts)], narrowed := true }
def UseKeepsUptoSaid : Prop := useKeepsUptoRow.holds Tryd.pinned (OpenSpec.upto useKeepsSpec)

/-- 'touchmarklaw05.UseTrue', WHERE WHAT IT READS IS OF BULK AT MOST 1048576: true; the input reads as it did. -/
def useTrueUptoRow : OpenClaim := { program := "ytopkdkedjkidhaadoor", sum := "de793d2ee226d7c2345c7d629c712b1b06e405e9213960cc7edf842da1ca036e", func := "touchmark/touchmarklaw05.UseTrue", spec := "useTrue", unfollowed := true, recurses := true, named := ["touchmark/use.parts"], plainKeys := false, leaving := true, apart := false, laid := [("touchmark/use.parts", laid_touchmark_use_parts)], narrowed := true }
def UseTrueUptoSaid : Prop := useTrueUptoRow.holds Tryd.pinned (OpenSpec.upto useTrueSpec)

/-- 'touchmarklaw05.UseMore', WHERE WHAT IT READS IS OF BULK AT MOST 1048576: true; the input reads as it did. -/
def useMoreUptoRow : OpenClaim := { program := "ytopkdkedjkidhaadoor", sum := "de793d2ee226d7c2345c7d629c712b1b06e405e9213960cc7edf842da1ca036e", func := "touchmark/touchmarklaw05.UseMore", spec := "useMore", unfollowed := true, recurses := true, named := ["touchmark/use.parts"], plainKeys := false, leaving := true, apart := false, laid := [("touchmark/use.parts", laid_touchmark_use_parts)], narrowed := true }
def UseMoreUptoSaid : Prop := useMoreUptoRow.holds Tryd.pinned (OpenSpec.upto useMoreSpec)

/-- 'touchmarklaw05.UseParts', WHERE WHAT IT READS IS OF BULK AT MOST 1048576: true; the input reads as it did. -/
def usePartsUptoRow : OpenClaim := { program := "ytopkdkedjkidhaadoor", sum := "de793d2ee226d7c2345c7d629c712b1b06e405e9213960cc7edf842da1ca036e", func := "touchmark/touchmarklaw05.UseParts", spec := "useParts", unfollowed := true, recurses := true, named := ["touchmark/use.parts"], plainKeys := false, leaving := true, apart := false, laid := [("touchmark/use.parts", laid_touchmark_use_parts)], narrowed := true }
def UsePartsUptoSaid : Prop := usePartsUptoRow.holds Tryd.pinned (OpenSpec.upto usePartsSpec)

/-- 'touchmarklaw05.UseTerms', WHERE WHAT IT READS IS OF BULK AT MOST 1048576: true; the input reads as it did. -/
def useTermsUptoRow : OpenClaim := { program := "ytopkdkedjkidhaadoor", sum := "de793d2ee226d7c2345c7d629c712b1b06e405e9213960cc7edf842da1ca036e", func := "touchmark/touchmarklaw05.UseTerms", spec := "useTerms", unfollowed := true, recurses := true, named := ["touchmark/use.parts", "touchmark/dates.lengths"], plainKeys := false, leaving := true, apart := false, laid := [("touchmark/dates.lengths", laid_touchmark_dates_lengths), ("touchmark/use.parts", laid_touchmark_use_parts)], narrowed := true }
def UseTermsUptoSaid : Prop := useTermsUptoRow.holds Tryd.pinned (OpenSpec.upto useTermsSpec)

end Rows
end Go.Proofs.YtopkdkedjkidhaaDoor

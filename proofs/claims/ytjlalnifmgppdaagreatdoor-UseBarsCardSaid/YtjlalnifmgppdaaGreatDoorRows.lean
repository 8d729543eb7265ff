/-
  NARROWER THAN 'FOR EVERY INPUT', by the rows' own cells (each row's printed sentence says how): UseBars: calm, laid.
  DERIVED. THE GIVEN ROWS OF THIS SEAT. 1 by the template 'for every input the law returns true; each argument reads behind the call as it read before'; 0 by the template 'total and deterministic' (their statements: YtjlalnifmgppdaaGreatDoorTotals.lean).
  GIVEN WITH THE SEED: the statements are not yours to turn. If you find one false, say at which input.
  Laid BY PROGRAM, IN A SANDBOX (cutbox-rows.mjs): the forced cells as the released guide's own fill.sh prints them over the translation 9bd40e264c36b810… (all of the seat's roots in one cut). By AI agents, Wed Nov 11 2026. No macro, syntax, notation, axiom, sorry.
-/
import Derived.Test.YtjlalnifmgppdaaGreatDoorChecked
import GoSem.Claim
import GoSem.ClaimJoined
import GoSem.ClaimMapViews
import Derived.JoinedTies
import Derived.KernelRfl
namespace Go.Proofs.YtjlalnifmgppdaaGreatDoor
/- THE CELL 'sum', in the pinned program and in every row, IS THE sha256 OF THE DUMP (.gsa) THAT YtjlalnifmgppdaaGreatDoorProg.lean LOADS. Nothing in Lean hashes anything: it is a label: what it is worth is what the hold of that sum in a sandbox is worth. -/
noncomputable def Tryz.pinned : Pinned := { name := "ytjlalnifmgppdaagreatdoor", sum := "9bd40e264c36b810c0309e9fdd5df7597355450ba74b7848e8c4e18d4f4704b3", checked := Tryz.checked }
namespace Rows
def none {H : Type} : Left H := { results := [], args := [] }

/- WHAT THE LISTED PACKAGE-LEVEL VARIABLES READ AS WHEN THE CALL BEGINS. Each datum BY PROGRAM (the guide's laid-datum.mjs) off the statement by which the dump's own 'gosem.cut.vars' lays the variable. In a bare row this is a premise. The card (YtjlalnifmgppdaaGreatDoorCards.lean) ties it to the program's text. -/
def laid_touchmark_dates_lengths {H : Type} : DataW H := .agg [.lit (.int .i64 31), .lit (.int .i64 28), .lit (.int .i64 31), .lit (.int .i64 30), .lit (.int .i64 31), .lit (.int .i64 30), .lit (.int .i64 31), .lit (.int .i64 31), .lit (.int .i64 30), .lit (.int .i64 31), .lit (.int .i64 30), .lit (.int .i64 31)]
def laid_touchmark_use_parts {H : Type} : DataW H := .iface "func table" (.agg [.iface "func" (.lit (.string [40, 116, 111, 117, 99, 104, 109, 97, 114, 107, 47, 117, 115, 101, 46, 102, 105, 108, 101, 41, 46, 110, 117, 109, 98, 101, 114, 115])), .iface "func" (.lit (.string [40, 116, 111, 117, 99, 104, 109, 97, 114, 107, 47, 117, 115, 101, 46, 102, 105, 108, 101, 41, 46, 101, 120, 99, 117, 115, 101, 115])), .iface "func" (.lit (.string [40, 116, 111, 117, 99, 104, 109, 97, 114, 107, 47, 117, 115, 101, 46, 102, 105, 108, 101, 41, 46, 112, 97, 112, 101, 114, 115])), .iface "func" (.lit (.string [40, 116, 111, 117, 99, 104, 109, 97, 114, 107, 47, 117, 115, 101, 46, 102, 105, 108, 101, 41, 46, 114, 101, 113, 117, 101, 115, 116, 115]))])

/-- 'touchmarklaw05.UseBars': WHATEVER THE INPUT: true; the input reads as it did. -/
def useBarsSpec : ChangeSpec := { name := "useBars", fn := fun _ => fun
  | [d1, d2, d3, d4, d5, d6, d7, d8] => { results := [.lit (.bool true)], args := [d1, d2, d3, d4, d5, d6, d7, d8] }
  | _ => none }
def useBarsRow : OpenClaim := { program := "ytjlalnifmgppdaagreatdoor", sum := "9bd40e264c36b810c0309e9fdd5df7597355450ba74b7848e8c4e18d4f4704b3", func := "touchmark/touchmarklaw05.UseBars", spec := "useBars", inPlace := ["(*internal/sync.Mutex).Lock", "internal/race.Disable", "sync/atomic.CompareAndSwapInt32", "internal/race.Enable", "internal/race.Acquire", "(*internal/sync.Mutex).lockSlow", "internal/sync.runtime_canSpin", "internal/sync.runtime_doSpin", "internal/sync.throw", "internal/sync.runtime_nanotime", "internal/sync.runtime_SemacquireMutex", "sync/atomic.AddInt32", "(*internal/sync.Mutex).Unlock", "internal/race.ReleaseMerge", "(*internal/sync.Mutex).unlockSlow", "internal/sync.fatal", "internal/sync.runtime_Semrelease"], unfollowed := true, recurses := true, named := ["touchmark/use.parts", "touchmark/dates.lengths"], plainKeys := false, leaving := true, apart := false, calm := true, outside := [.timePasses], laid := [("touchmark/dates.lengths", laid_touchmark_dates_lengths), ("touchmark/use.parts", laid_touchmark_use_parts)] }
def UseBarsSaid : Prop := useBarsRow.holds Tryz.pinned (OpenSpec.ofChange useBarsSpec)

/-- ITS FALSE NEIGHBOUR: 'it returns false'. Refute it at one input. -/
def useBarsWrong : ChangeSpec := { name := "useBars", fn := fun _ => fun
  | [d1, d2, d3, d4, d5, d6, d7, d8] => { results := [.lit (.bool false)], args := [d1, d2, d3, d4, d5, d6, d7, d8] }
  | _ => none }
def UseBarsWrongFalsely : Prop := useBarsRow.holds Tryz.pinned (OpenSpec.ofChange useBarsWrong)

end Rows
end Go.Proofs.YtjlalnifmgppdaaGreatDoor

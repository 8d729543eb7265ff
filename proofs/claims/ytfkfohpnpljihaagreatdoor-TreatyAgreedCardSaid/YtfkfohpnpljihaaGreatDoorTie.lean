/-
  DERIVED. GIVEN WITH THE SEED: THE PROGRAM's TIES (one call each: nine closed facts by the kernel) AND EACH ROW's TIE, after the 31st guide's Derived/Test/Toyas{Tie, Card}.lean. No idea stands in it: it is a product of the set-up. Laid BY PROGRAM, IN A SANDBOX (cutbox-door.mjs). By AI agents, Wed Nov 11 2026. No macro, syntax, notation, axiom, sorry.
-/
import Derived.Test.YtfkfohpnpljihaaGreatDoorRows
import Derived.LaidByTextLater
import Derived.SevenTiedAt
import Derived.LaidSub
import Derived.LaidOnce
namespace Go.Proofs.YtfkfohpnpljihaaGreatDoor
open Go
set_option maxRecDepth 100000
theorem seatTie1 : Tryz.prog.laidByTextLater [("touchmark/treaty.bound", Rows.laid_touchmark_treaty_bound), ("touchmark/treaty.kinds", Rows.laid_touchmark_treaty_kinds), ("touchmark/use.parts", Rows.laid_touchmark_use_parts)] [.data, .funcsDeep, .funcs] true :=
  Program.laidByTextLater_by_one 38 8 3 (by kernel_rfl) (by kernel_rfl) (by kernel_rfl) (by kernel_rfl) (by kernel_rfl) (by kernel_rfl) (fun _ _ => by kernel_rfl)
theorem noOwnUnsafe : Tryz.pinned.checked.prog.headLifts.contains "ownunsafe" = false := by kernel_rfl
theorem tie : Tryz.prog.laidByTextLater [("touchmark/use.parts", Rows.laid_touchmark_use_parts)] [.funcs] true :=
  Program.laidByTextLater.sub seatTie1 ["touchmark/use.parts"] (by kernel_rfl) (by kernel_rfl)
theorem useKin_row_tie : Rows.useKinRow.laidByTextAt .later Tryz.pinned [.funcs] true :=
  OpenClaim.laidByTextAt_later rfl rfl tie noOwnUnsafe
theorem useAgreed_row_tie : Rows.useAgreedRow.laidByTextAt .later Tryz.pinned [.funcs] true :=
  OpenClaim.laidByTextAt_later rfl rfl tie noOwnUnsafe
theorem tie2 : Tryz.prog.laidByTextLater [("touchmark/treaty.bound", Rows.laid_touchmark_treaty_bound), ("touchmark/treaty.kinds", Rows.laid_touchmark_treaty_kinds)] [.data, .funcsDeep] true :=
  Program.laidByTextLater.sub seatTie1 ["touchmark/treaty.bound", "touchmark/treaty.kinds"] (by kernel_rfl) (by kernel_rfl)
theorem treatyAgreed_row_tie : Rows.treatyAgreedRow.laidByTextAt .later Tryz.pinned [.data, .funcsDeep] true :=
  OpenClaim.laidByTextAt_later rfl rfl tie2 noOwnUnsafe
theorem useKinUpto_row_tie : Rows.useKinUptoRow.laidByTextAt .later Tryz.pinned [.funcs] true :=
  OpenClaim.laidByTextAt_later rfl rfl tie noOwnUnsafe
theorem useAgreedUpto_row_tie : Rows.useAgreedUptoRow.laidByTextAt .later Tryz.pinned [.funcs] true :=
  OpenClaim.laidByTextAt_later rfl rfl tie noOwnUnsafe
theorem treatyAgreedUpto_row_tie : Rows.treatyAgreedUptoRow.laidByTextAt .later Tryz.pinned [.data, .funcsDeep] true :=
  OpenClaim.laidByTextAt_later rfl rfl tie2 noOwnUnsafe
end Go.Proofs.YtfkfohpnpljihaaGreatDoor

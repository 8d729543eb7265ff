/-
  DERIVED. GIVEN WITH THE SEED: THE PROGRAM's TIES (one call each: nine closed facts by the kernel) AND EACH ROW's TIE, after the 31st guide's Derived/Test/Toyas{Tie, Card}.lean. No idea stands in it: it is a product of the set-up. Laid BY PROGRAM, IN A SANDBOX (cutbox-door.mjs). By AI agents, Wed Nov 11 2026. No macro, syntax, notation, axiom, sorry.
-/
import Derived.Test.YtgljffachdhigaaGreatDoorRows
import Derived.LaidByTextLater
import Derived.SevenTiedAt
import Derived.LaidSub
import Derived.LaidOnce
namespace Go.Proofs.YtgljffachdhigaaGreatDoor
open Go
set_option maxRecDepth 100000
theorem seatTie1 : Tryz.prog.laidByTextLater [("touchmark/rival.checks", Rows.laid_touchmark_rival_checks), ("touchmark/treaty.bound", Rows.laid_touchmark_treaty_bound), ("touchmark/treaty.kinds", Rows.laid_touchmark_treaty_kinds), ("touchmark/use.parts", Rows.laid_touchmark_use_parts)] [.funcs, .data, .funcsDeep, .funcs] true :=
  Program.laidByTextLater_by_one 43 8 3 (by kernel_rfl) (by kernel_rfl) (by kernel_rfl) (by kernel_rfl) (by kernel_rfl) (by kernel_rfl) (fun _ _ => by kernel_rfl)
theorem noOwnUnsafe : Tryz.pinned.checked.prog.headLifts.contains "ownunsafe" = false := by kernel_rfl
theorem tie : Tryz.prog.laidByTextLater [("touchmark/rival.checks", Rows.laid_touchmark_rival_checks), ("touchmark/use.parts", Rows.laid_touchmark_use_parts)] [.funcs, .funcs] true :=
  Program.laidByTextLater.sub seatTie1 ["touchmark/rival.checks", "touchmark/use.parts"] (by kernel_rfl) (by kernel_rfl)
theorem useRival_row_tie : Rows.useRivalRow.laidByTextAt .later Tryz.pinned [.funcs, .funcs] true :=
  OpenClaim.laidByTextAt_later rfl rfl tie noOwnUnsafe
theorem tie2 : Tryz.prog.laidByTextLater [("touchmark/rival.checks", Rows.laid_touchmark_rival_checks), ("touchmark/treaty.bound", Rows.laid_touchmark_treaty_bound), ("touchmark/treaty.kinds", Rows.laid_touchmark_treaty_kinds)] [.funcs, .data, .funcsDeep] true :=
  Program.laidByTextLater.sub seatTie1 ["touchmark/rival.checks", "touchmark/treaty.bound", "touchmark/treaty.kinds"] (by kernel_rfl) (by kernel_rfl)
theorem treatyRival_row_tie : Rows.treatyRivalRow.laidByTextAt .later Tryz.pinned [.funcs, .data, .funcsDeep] true :=
  OpenClaim.laidByTextAt_later rfl rfl tie2 noOwnUnsafe
theorem useRivalUpto_row_tie : Rows.useRivalUptoRow.laidByTextAt .later Tryz.pinned [.funcs, .funcs] true :=
  OpenClaim.laidByTextAt_later rfl rfl tie noOwnUnsafe
theorem treatyRivalUpto_row_tie : Rows.treatyRivalUptoRow.laidByTextAt .later Tryz.pinned [.funcs, .data, .funcsDeep] true :=
  OpenClaim.laidByTextAt_later rfl rfl tie2 noOwnUnsafe
end Go.Proofs.YtgljffachdhigaaGreatDoor

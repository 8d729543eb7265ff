/-
  DERIVED. GIVEN WITH THE SEED: THE PROGRAM's TIES (one call each: nine closed facts by the kernel) AND EACH ROW's TIE, after the 31st guide's Derived/Test/Toyas{Tie, Card}.lean. No idea stands in it: it is a product of the set-up. Laid BY PROGRAM, IN A SANDBOX (cutbox-door.mjs). By AI agents, Wed Nov 11 2026. No macro, syntax, notation, axiom, sorry.
-/
import Derived.Test.YtldamlcehbdkdaaDoorRows
import Derived.LaidByTextLater
import Derived.SevenTiedAt
import Derived.LaidSub
import Derived.LaidOnce
namespace Go.Proofs.YtldamlcehbdkdaaDoor
open Go
set_option maxRecDepth 100000
theorem seatTie1 : Tryd.prog.laidByTextLater [("touchmark/dates.lengths", Rows.laid_touchmark_dates_lengths), ("touchmark/treaty.bound", Rows.laid_touchmark_treaty_bound), ("touchmark/treaty.kinds", Rows.laid_touchmark_treaty_kinds), ("touchmark/use.parts", Rows.laid_touchmark_use_parts)] [.data, .data, .funcsDeep, .funcs] true :=
  Program.laidByTextLater_by_one 43 8 13 (by kernel_rfl) (by kernel_rfl) (by kernel_rfl) (by kernel_rfl) (by kernel_rfl) (by kernel_rfl) (fun _ _ => by kernel_rfl)
theorem noOwnUnsafe : Tryd.pinned.checked.prog.headLifts.contains "ownunsafe" = false := by kernel_rfl
theorem tie : Tryd.prog.laidByTextLater [("touchmark/dates.lengths", Rows.laid_touchmark_dates_lengths), ("touchmark/use.parts", Rows.laid_touchmark_use_parts)] [.data, .funcs] true :=
  Program.laidByTextLater.sub seatTie1 ["touchmark/dates.lengths", "touchmark/use.parts"] (by kernel_rfl) (by kernel_rfl)
theorem useTerms_row_tie : Rows.useTermsRow.laidByTextAt .later Tryd.pinned [.data, .funcs] true :=
  OpenClaim.laidByTextAt_later rfl rfl tie noOwnUnsafe
theorem tie2 : Tryd.prog.laidByTextLater [("touchmark/dates.lengths", Rows.laid_touchmark_dates_lengths), ("touchmark/treaty.bound", Rows.laid_touchmark_treaty_bound), ("touchmark/treaty.kinds", Rows.laid_touchmark_treaty_kinds)] [.data, .data, .funcsDeep] true :=
  Program.laidByTextLater.sub seatTie1 ["touchmark/dates.lengths", "touchmark/treaty.bound", "touchmark/treaty.kinds"] (by kernel_rfl) (by kernel_rfl)
theorem treatyTerms_row_tie : Rows.treatyTermsRow.laidByTextAt .later Tryd.pinned [.data, .data, .funcsDeep] true :=
  OpenClaim.laidByTextAt_later rfl rfl tie2 noOwnUnsafe
theorem useTermsUpto_row_tie : Rows.useTermsUptoRow.laidByTextAt .later Tryd.pinned [.data, .funcs] true :=
  OpenClaim.laidByTextAt_later rfl rfl tie noOwnUnsafe
theorem treatyTermsUpto_row_tie : Rows.treatyTermsUptoRow.laidByTextAt .later Tryd.pinned [.data, .data, .funcsDeep] true :=
  OpenClaim.laidByTextAt_later rfl rfl tie2 noOwnUnsafe
end Go.Proofs.YtldamlcehbdkdaaDoor

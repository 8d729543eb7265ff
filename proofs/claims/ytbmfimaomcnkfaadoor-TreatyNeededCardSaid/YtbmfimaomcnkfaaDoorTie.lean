/-
  DERIVED. GIVEN WITH THE SEED: THE PROGRAM's TIES (one call each: nine closed facts by the kernel) AND EACH ROW's TIE, after the 31st guide's Derived/Test/Toyas{Tie, Card}.lean. No idea stands in it: it is a product of the set-up. Laid BY PROGRAM, IN A SANDBOX (cutbox-door.mjs). By AI agents, Wed Nov 11 2026. No macro, syntax, notation, axiom, sorry.
-/
import Derived.Test.YtbmfimaomcnkfaaDoorRows
import Derived.LaidByTextLater
import Derived.SevenTiedAt
import Derived.LaidSub
import Derived.LaidOnce
namespace Go.Proofs.YtbmfimaomcnkfaaDoor
open Go
set_option maxRecDepth 100000
theorem seatTie1 : Tryd.prog.laidByTextLater [("touchmark/treaty.bound", Rows.laid_touchmark_treaty_bound), ("touchmark/treaty.kinds", Rows.laid_touchmark_treaty_kinds)] [.data, .funcsDeep] true :=
  Program.laidByTextLater_by_one 33 8 3 (by kernel_rfl) (by kernel_rfl) (by kernel_rfl) (by kernel_rfl) (by kernel_rfl) (by kernel_rfl) (fun _ _ => by kernel_rfl)
theorem noOwnUnsafe : Tryd.pinned.checked.prog.headLifts.contains "ownunsafe" = false := by kernel_rfl
theorem tie : Tryd.prog.laidByTextLater [("touchmark/treaty.bound", Rows.laid_touchmark_treaty_bound), ("touchmark/treaty.kinds", Rows.laid_touchmark_treaty_kinds)] [.data, .funcsDeep] true :=
  Program.laidByTextLater.sub seatTie1 ["touchmark/treaty.bound", "touchmark/treaty.kinds"] (by kernel_rfl) (by kernel_rfl)
theorem treatyStates_row_tie : Rows.treatyStatesRow.laidByTextAt .later Tryd.pinned [.data, .funcsDeep] true :=
  OpenClaim.laidByTextAt_later rfl rfl tie noOwnUnsafe
theorem treatyDates_row_tie : Rows.treatyDatesRow.laidByTextAt .later Tryd.pinned [.data, .funcsDeep] true :=
  OpenClaim.laidByTextAt_later rfl rfl tie noOwnUnsafe
theorem treatyAnyOrder_row_tie : Rows.treatyAnyOrderRow.laidByTextAt .later Tryd.pinned [.data, .funcsDeep] true :=
  OpenClaim.laidByTextAt_later rfl rfl tie noOwnUnsafe
theorem treatyCentral_row_tie : Rows.treatyCentralRow.laidByTextAt .later Tryd.pinned [.data, .funcsDeep] true :=
  OpenClaim.laidByTextAt_later rfl rfl tie noOwnUnsafe
theorem treatyTurned_row_tie : Rows.treatyTurnedRow.laidByTextAt .later Tryd.pinned [.data, .funcsDeep] true :=
  OpenClaim.laidByTextAt_later rfl rfl tie noOwnUnsafe
theorem treatyGiving_row_tie : Rows.treatyGivingRow.laidByTextAt .later Tryd.pinned [.data, .funcsDeep] true :=
  OpenClaim.laidByTextAt_later rfl rfl tie noOwnUnsafe
theorem treatyTaking_row_tie : Rows.treatyTakingRow.laidByTextAt .later Tryd.pinned [.data, .funcsDeep] true :=
  OpenClaim.laidByTextAt_later rfl rfl tie noOwnUnsafe
theorem treatySpanned_row_tie : Rows.treatySpannedRow.laidByTextAt .later Tryd.pinned [.data, .funcsDeep] true :=
  OpenClaim.laidByTextAt_later rfl rfl tie noOwnUnsafe
theorem treatyDated_row_tie : Rows.treatyDatedRow.laidByTextAt .later Tryd.pinned [.data, .funcsDeep] true :=
  OpenClaim.laidByTextAt_later rfl rfl tie noOwnUnsafe
theorem treatyLate_row_tie : Rows.treatyLateRow.laidByTextAt .later Tryd.pinned [.data, .funcsDeep] true :=
  OpenClaim.laidByTextAt_later rfl rfl tie noOwnUnsafe
theorem treatyApart_row_tie : Rows.treatyApartRow.laidByTextAt .later Tryd.pinned [.data, .funcsDeep] true :=
  OpenClaim.laidByTextAt_later rfl rfl tie noOwnUnsafe
theorem treatyEvents_row_tie : Rows.treatyEventsRow.laidByTextAt .later Tryd.pinned [.data, .funcsDeep] true :=
  OpenClaim.laidByTextAt_later rfl rfl tie noOwnUnsafe
theorem treatyNeeded_row_tie : Rows.treatyNeededRow.laidByTextAt .later Tryd.pinned [.data, .funcsDeep] true :=
  OpenClaim.laidByTextAt_later rfl rfl tie noOwnUnsafe
theorem treatyStatesUpto_row_tie : Rows.treatyStatesUptoRow.laidByTextAt .later Tryd.pinned [.data, .funcsDeep] true :=
  OpenClaim.laidByTextAt_later rfl rfl tie noOwnUnsafe
theorem treatyDatesUpto_row_tie : Rows.treatyDatesUptoRow.laidByTextAt .later Tryd.pinned [.data, .funcsDeep] true :=
  OpenClaim.laidByTextAt_later rfl rfl tie noOwnUnsafe
theorem treatyAnyOrderUpto_row_tie : Rows.treatyAnyOrderUptoRow.laidByTextAt .later Tryd.pinned [.data, .funcsDeep] true :=
  OpenClaim.laidByTextAt_later rfl rfl tie noOwnUnsafe
theorem treatyCentralUpto_row_tie : Rows.treatyCentralUptoRow.laidByTextAt .later Tryd.pinned [.data, .funcsDeep] true :=
  OpenClaim.laidByTextAt_later rfl rfl tie noOwnUnsafe
theorem treatyTurnedUpto_row_tie : Rows.treatyTurnedUptoRow.laidByTextAt .later Tryd.pinned [.data, .funcsDeep] true :=
  OpenClaim.laidByTextAt_later rfl rfl tie noOwnUnsafe
theorem treatyGivingUpto_row_tie : Rows.treatyGivingUptoRow.laidByTextAt .later Tryd.pinned [.data, .funcsDeep] true :=
  OpenClaim.laidByTextAt_later rfl rfl tie noOwnUnsafe
theorem treatyTakingUpto_row_tie : Rows.treatyTakingUptoRow.laidByTextAt .later Tryd.pinned [.data, .funcsDeep] true :=
  OpenClaim.laidByTextAt_later rfl rfl tie noOwnUnsafe
theorem treatySpannedUpto_row_tie : Rows.treatySpannedUptoRow.laidByTextAt .later Tryd.pinned [.data, .funcsDeep] true :=
  OpenClaim.laidByTextAt_later rfl rfl tie noOwnUnsafe
theorem treatyDatedUpto_row_tie : Rows.treatyDatedUptoRow.laidByTextAt .later Tryd.pinned [.data, .funcsDeep] true :=
  OpenClaim.laidByTextAt_later rfl rfl tie noOwnUnsafe
theorem treatyLateUpto_row_tie : Rows.treatyLateUptoRow.laidByTextAt .later Tryd.pinned [.data, .funcsDeep] true :=
  OpenClaim.laidByTextAt_later rfl rfl tie noOwnUnsafe
theorem treatyApartUpto_row_tie : Rows.treatyApartUptoRow.laidByTextAt .later Tryd.pinned [.data, .funcsDeep] true :=
  OpenClaim.laidByTextAt_later rfl rfl tie noOwnUnsafe
theorem treatyEventsUpto_row_tie : Rows.treatyEventsUptoRow.laidByTextAt .later Tryd.pinned [.data, .funcsDeep] true :=
  OpenClaim.laidByTextAt_later rfl rfl tie noOwnUnsafe
theorem treatyNeededUpto_row_tie : Rows.treatyNeededUptoRow.laidByTextAt .later Tryd.pinned [.data, .funcsDeep] true :=
  OpenClaim.laidByTextAt_later rfl rfl tie noOwnUnsafe
end Go.Proofs.YtbmfimaomcnkfaaDoor

/-
  DERIVED. GIVEN WITH THE SEED: THE PROGRAM's TIES (one call each: nine closed facts by the kernel) AND EACH ROW's TIE, after the 31st guide's Derived/Test/Toyas{Tie, Card}.lean. No idea stands in it: it is a product of the set-up. Laid BY PROGRAM, IN A SANDBOX (cutbox-door.mjs). By AI agents, Wed Nov 11 2026. No macro, syntax, notation, axiom, sorry.
-/
import Derived.Test.YtidnomjiienllaaGreatDoorRows
import Derived.LaidByTextLater
import Derived.SevenTiedAt
import Derived.LaidSub
import Derived.LaidOnce
namespace Go.Proofs.YtidnomjiienllaaGreatDoor
open Go
set_option maxRecDepth 100000
theorem seatTie1 : Tryz.prog.laidByTextLater [("chartroom/digest.start", Rows.laid_chartroom_digest_start), ("chartroom/digest.numbers", Rows.laid_chartroom_digest_numbers), ("chartroom/padding.lengths", Rows.laid_chartroom_padding_lengths), ("chartroom/grants.errGroup", Rows.laid_chartroom_grants_errGroup), ("chartroom/grants.errMember", Rows.laid_chartroom_grants_errMember)] [.data, .data, .widerDeep, .sentinel, .sentinel] true :=
  Program.laidByTextLater_by_one 62 8 65 (by kernel_rfl) (by kernel_rfl) (by kernel_rfl) (by kernel_rfl) (by kernel_rfl) (by kernel_rfl) (fun _ _ => by kernel_rfl)
theorem noOwnUnsafe : Tryz.pinned.checked.prog.headLifts.contains "ownunsafe" = false := by kernel_rfl
theorem tie : Tryz.prog.laidByTextLater [("chartroom/digest.start", Rows.laid_chartroom_digest_start), ("chartroom/digest.numbers", Rows.laid_chartroom_digest_numbers), ("chartroom/padding.lengths", Rows.laid_chartroom_padding_lengths), ("chartroom/grants.errGroup", Rows.laid_chartroom_grants_errGroup), ("chartroom/grants.errMember", Rows.laid_chartroom_grants_errMember)] [.data, .data, .widerDeep, .sentinel, .sentinel] true :=
  Program.laidByTextLater.sub seatTie1 ["chartroom/digest.start", "chartroom/digest.numbers", "chartroom/padding.lengths", "chartroom/grants.errGroup", "chartroom/grants.errMember"] (by kernel_rfl) (by kernel_rfl)
theorem policyAges_row_tie : Rows.policyAgesRow.laidByTextAt .later Tryz.pinned [.data, .data, .widerDeep, .sentinel, .sentinel] true :=
  OpenClaim.laidByTextAt_later rfl rfl tie noOwnUnsafe
theorem policyAgesUpto_row_tie : Rows.policyAgesUptoRow.laidByTextAt .later Tryz.pinned [.data, .data, .widerDeep, .sentinel, .sentinel] true :=
  OpenClaim.laidByTextAt_later rfl rfl tie noOwnUnsafe
end Go.Proofs.YtidnomjiienllaaGreatDoor
